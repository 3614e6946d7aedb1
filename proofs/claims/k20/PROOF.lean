import PyProof.Rows.All
import Wide.All
import OpenK.AllK
import Wide.FinOn
import PyProof.Rows.StrOr
import KE.KIntText
import KE.KxText
import HandS.ForExc
import HandS.Comp
import HandS.Dict
import HandS.Iter
import HandS.Text
import HandS.FStr
import HandS.Codes
import PyProof.RangeIter
import HandS.Hot
import HandS.HotCalls
import HandS.OwnEq
import HandS.ExcIs
import KE.KExcIs
import HandS.ExcField
import KE.KTryMore
import HandS.ExcCtx
import PyProof.RulesAs
import HandS.Lambda
import HandS.ExcInit
import HandS.ExcInitHot
import HandS.Gcd
import HandS.IsInst
import HandS.TupAny
import HandS.Words
import HandS.Defaults
import HandS.Walk
import HandS.WideBits
import HandS.ExcBuiltin
import PyProof.StrOps2
import HandS.ReplaceLit
import HandS.ReplaceDef
import KE.KStateDown
import KE.KNest
import KE.KNestM
import HandS.Head0
import HandS.Head1
import HandS.Head2
import HandS.Head3
import HandS.HeadHook1
import HandS.HeadHook2
import HandS.HeadHook3
import HandS.HeadHook4
import HandS.HeadWalk
import PySem.Challenge.RW_waysacross_k20_trees_told
import HandS.ReplaceList
import HandS.Small
import HandS.Strs
import KE.KExcInit
import HandS.IterNext
import HandS.OwnIter
import PyProof.Rows.InDataRows
import KE.GoesEnum
import PyProof.Rows.SortStr
import HandS.DictComp
import KE.KFmtOwn
import HandS.MakeKwOnly
import HandS.Conv
import PyProof.ExcBaseAll.LookupError
set_option Elab.async false
set_option linter.all false
set_option maxRecDepth 100000
set_option maxHeartbeats 4000000
/-! LayA: ints written and read up to 4,300 digits -/
namespace Lay
open PySem PySem.Spec PyProof.Rows L2
/-- nobody has set another limit of digits -/
def DigK (K : PySem.W.Frag) : Prop := PySem.W.nsIn K cStatics "sys.int_max_str_digits" = some none
theorem ns_gone {K : PySem.W.Frag} {h : Heap} {a : Addr} {m : Str → Option Value} {n : Str} (kin : K.In h) (g : h.Ns a m) (e : PySem.W.nsIn K a n = some none) : m n = none := by
  obtain ⟨ob, ens, epo, h1, h2, _, look⟩ := g
  rw [← look n]
  unfold PySem.W.nsIn at e
  cases q : K.lookup a with
  | none => rw [q] at e; cases e
  | some o2 =>
    have same := kin _ _ q
    rw [h1] at same
    obtain rfl := Option.some.inj same
    obtain ⟨c, d, dt, sl⟩ := ob
    obtain rfl : dt = .dict ens epo := h2
    rw [q] at e
    have e2 : (match ens.toList.find? (·.key.isStr n) with
      | some en => some (some en.val)
      | none => if ens.toList.any (·.refKey) then none else some none) = some none := e
    cases z : ens.toList.find? (·.key.isStr n) with
    | some en => rw [z] at e2; cases e2
    | none =>
      unfold nsFind findBy
      rw [← Array.find?_toList, z]
      rfl
section
variable {X : Cx} {pins : List (Addr × Obj)} {σ : L2.St} {H : Hp} {s : Shared}
theorem no_digits (I : Inv X pins σ H s) (d : DigK X.K) : s.heap.NoDigits := by
  obtain ⟨mc, h1, _⟩ := I.nolimit
  exact ⟨mc, h1, ns_gone I.kIn h1 d⟩
/-- ints below 10 ^ 4300 are written -/
def Short (i : Int) : Prop := i.natAbs < 10 ^ 4300
theorem call_strBig (hc : X.calm = true) (d : DigK X.K) : CallR X (.type "str") (fun xs H Q => ∃ i, xs = [.int i] ∧ Short i ∧ Q (.str (toString i)) H) := by
  intro pins s σ H xs us Q I r h
  obtain ⟨i, rfl, hi, q⟩ := h
  obtain ⟨u, rfl, t, rfl⟩ := vals1 r
  exact str_of_int_or (I.ok.hd hc) (no_digits I d) (fun _ => ⟨.str _, H, I.tok _, ⟨_, rfl⟩, q⟩) fun big => absurd hi (Nat.not_lt.mpr big)
/-- {x}: a text or such an int -/
def tFmtB (te : TE) : TE := fun σ H Q => te σ H fun x H1 => (∃ y : Str, x = .str y ∧ y.length ≤ sizeLine ∧ Q (.str y) H1) ∨ ∃ i : Int, x = .int i ∧ Short i ∧ Q (.str (toString i)) H1
theorem pe_fmtB {e : Expr} {te : TE} {pos : Pos} (hc : X.calm = true) (d : DigK X.K) (he : PE X e te) : PE X (.FormattedValue e (-1) none pos) (tFmtB te) := by
  constructor
  intro pins s σ H Q I h
  refine wpAny_FormattedValue_plain (thn (he.run pins s σ H _ I h) fun v s1 hv => ?_)
  obtain ⟨x, H1, I1, r1, q⟩ := hv
  rcases q with ⟨y, rfl, hz, q⟩ | ⟨i, rfl, hi, q⟩
  · obtain ⟨t, rfl⟩ := r1
    exact wpAny_formatField_str ⟨.str y, H1, I1, ⟨t, rfl⟩, q⟩ ⟨.str y, H1, I1.tok _, ⟨_, rfl⟩, q⟩ hz
  · obtain ⟨t, rfl⟩ := r1
    exact formatField_int (I.ok.hd hc) (no_digits I1 d) (fun _ => ⟨.str (toString i), H1, I1.tok _, ⟨_, rfl⟩, q⟩) fun big => absurd hi (Nat.not_lt.mpr big)
end
end Lay

set_option Elab.async false
set_option linter.all false
set_option maxRecDepth 100000
set_option maxHeartbeats 4000000
namespace Lay
open PySem PySem.Spec PyProof.Rows L2 PySem.NumText
theorem lim_is {M : Model} {A : Around} {E : Value → Shared → Prop} {s : Shared} {Q : Nat → Shared → Prop} (hn : s.heap.NoDigits) (h : Q 4300 s) : wpAny M A Builtin.intMaxStrDigits Q E s := by
  obtain ⟨mc, hns, hz⟩ := hn
  unfold Builtin.intMaxStrDigits
  refine wpAny_bind (wpAny_nsGet hns ?_)
  rw [hz]
  exact wpAny_pure h
theorem text_long {M : Model} {A : Around} {E : Value → Shared → Prop} {s : Shared} {Q : Value → Shared → Prop} {v : Value} {text : List Nat} {n : Int} (hn : s.heap.NoDigits)
    (hs : ¬ (text.takeWhile (· != 0)).length ≤ 640) (hr : (int_private% "readNumeral") 4300 10 (text.takeWhile (· != 0)) = (int_private% "Numeral.value") n)
    (ha : ((text.takeWhile (· != 0)).length == text.length) = true) (h : Q (.int n s.toks) { s with toks := s.toks + 1 }) :
    wpAny M A ((int_private% "intFromText") v text 10) Q E s := by
  obtain ⟨hp, g, d, tk, os⟩ := s
  have gone : wpAny M A Builtin.intMaxStrDigits (fun k s' => k = 4300 ∧ s' = ⟨hp, g, d, tk, os⟩) E ⟨hp, g, d, tk, os⟩ := lim_is hn ⟨rfl, rfl⟩
  repeat (any_goals (first
    | assumption
    | (with_reducible refine wpAny_ite_false (decide_eq_false hs) ?_)
    | (with_reducible refine wpAny_mono gone ?_ (fun _ _ z => z); rintro k s' ⟨rfl, rfl⟩)
    | (with_reducible refine wpAny_ite_true (decide_eq_true ha) ?_)
    | wp_step))
  all_goals (try rw [hr])
  all_goals (try dsimp only)
  repeat (any_goals (first
    | assumption
    | (with_reducible refine wpAny_ite_true (decide_eq_true ha) ?_)
    | wp_step))
/-- what int(text) asks of the text -/
structure Txt10 (x : PySem.Str) (n : Int) : Prop where
  whole : ((numSeenOf x).length == (numTextOf x).length) = true
  sh : (numSeenOf x).length ≤ 640 → (int_private% "readNumeral") 0 10 (numSeenOf x) = (int_private% "Numeral.value") n
  lo : ¬ (numSeenOf x).length ≤ 640 → (int_private% "readNumeral") 4300 10 (numSeenOf x) = (int_private% "Numeral.value") n
theorem txt10 {x : PySem.Str} {n : Int} (hl : x.length ≤ 4300) (hn : PySem.intText? x = some n) : Txt10 x n := by
  have fits : x.length ≤ sizeLine := Nat.le_trans hl (by decide)
  rcases read4300 x fits with ⟨m, h1, h2, h3⟩ | ⟨h1, _⟩
  · rw [hn] at h1
    obtain rfl := Option.some.inj h1
    refine ⟨h2, fun hs => ?_, fun _ => h3⟩
    rcases read0 x hs with ⟨m', k1, k2, k3⟩ | ⟨k1, _⟩
    · rw [hn] at k1
      obtain rfl := Option.some.inj k1
      exact k3
    · rw [hn] at k1
      cases k1
  · rw [hn] at h1
    cases h1
theorem text_any {M : Model} {A : Around} {E : Value → Shared → Prop} {s : Shared} {Q : Value → Shared → Prop} {v : Value} {x : PySem.Str} {n : Int} (hn : s.heap.NoDigits) (t : Txt10 x n)
    (h : Q (.int n s.toks) { s with toks := s.toks + 1 }) : wpAny M A ((int_private% "intFromText") v (numTextOf x) 10) Q E s := by
  by_cases hs : (numSeenOf x).length ≤ 640
  · exact PySem.W.KIN.wp_text hs (t.sh hs) t.whole h
  · exact text_long hn hs (t.lo hs) t.whole h
structure Hide (p : Prop) : Prop where
  out : p
theorem meets_text {x : PySem.Str} {u : Tok} {n : Int} (t : Txt10 x n) :
    Meets (Builtin.«int.__new__» ⟨[.type "int", .str x u], []⟩) (fun _ R s => s.heap.NoDigits ∧ R (.ok (.ret (.int n s.toks))) { s with toks := s.toks + 1 }) := by
  intro prog w A R s ⟨hn, h⟩
  obtain ⟨hp, g, d, tk, os⟩ := s
  have f1 := F.conv_sub_int
  have f2 := F.madeHere_int
  have f3 := PySem.W.KIN.str_int
  have f4 := PySem.W.KIN.str_idx
  have f5 := PySem.W.KIN.str_trunc
  have f6 : typeOf (.str x u) = pure (.type "str") := rfl
  have hk := Hide.mk (And.intro hn t)
  clear hn t
  repeat (any_goals (first
    | assumption
    | ((with_reducible show wpAny _ _ ((int_private% "intFromText") _ _ _) _ _ _); refine text_any hk.out.1 hk.out.2 ?_)
    | wp_step))
  all_goals first | exact h | skip
section
variable {X : Cx}
/-- int(text) of at most 4,300 signs -/
theorem call_intTxt (d : DigK X.K) : CallR X (.type "int") (fun xs H Q => ∃ a n, xs = [.str a] ∧ PySem.intText? a = some n ∧ a.length ≤ 4300 ∧ Q (.int n) H) := by
  intro pins s σ H xs us Q I r h
  obtain ⟨a, n, rfl, hn, hl, q⟩ := h
  obtain ⟨u, rfl, t, rfl⟩ := vals1 r
  refine call_int_1 (meets_text (txt10 hl hn)) ⟨no_digits I d, ?_⟩
  exact ⟨typeIs_int _ _ _, ⟨.int n, H, I.tok _, ⟨_, rfl⟩, q⟩⟩
end
end Lay

set_option Elab.async false
set_option linter.all false
set_option maxRecDepth 100000
set_option maxHeartbeats 4000000
/-! LayC: iterators end, tuples are taken apart, whether an exception is handled or not -/
namespace Lay
open PySem PySem.Spec PyProof.Rows L2 HotX
section
variable {prog : Program} {w : World} {A : Around} {E : Value → Shared → Prop} {s : Shared}
/-- nothing is handled, or an exception whose context is None -/
def Hand (A : Around) (h : Heap) : Prop := A.handled = none ∨ ∃ x1, HotAt A x1 h
theorem hot_up {x1 : Addr} {h h' : Heap} (a : HotAt A x1 h) (k : ∀ o vs, h.get? x1 = some o → o.data = .fields vs → vs[2]? = some .none → h'.get? x1 = some o) : HotAt A x1 h' := by
  obtain ⟨hh, o, vs, e1, e2, e3⟩ := a
  exact ⟨hh, o, vs, k o vs e1 e2 e3, e2, e3⟩
/-- a StopIteration is made and raised where one is handled -/
theorem stop_hot {α : Type} {x1 : Addr} {Q : α → Shared → Prop} (hot : HotAt A x1 s.heap)
    (hE : ∀ (a : Addr) (h' : Heap), (∀ b o, s.heap.get? b = some o → h'.get? b = some o) → (∃ o, h'.get? a = some o ∧ o.cls = .type "StopIteration") → E (.ref a) { s with heap := h' }) :
    wpAny (model prog w) A (newExc (.type "StopIteration") [] >>= fun e => (raiseNew e : Sem α)) Q E s := by
  refine wpAny_bind ?_
  simp only [newExc, newTuple]
  refine wpAny_bind (wpAny_newObj_type ?_ (by size_fits))
  refine wpAny_bind (m := firstArgMember _ _) (wpAny_of_eq (a := Value.none) (by first | rfl | (simp only [firstArgMember]; rfl)) ?_)
  refine wpAny_newObj_type ?_ (by size_fits)
  have up : ∀ (o1 o2 : Obj) b o, s.heap.get? b = some o → ((s.heap.push o1).push o2).get? b = some o := fun _ _ b o e => Heap.get?_push_of_some _ (Heap.get?_push_of_some _ e)
  obtain ⟨hh, o1, vs1, e1, e2, e3⟩ := hot
  refine raiseNew_hot ⟨hh, o1, vs1, up _ _ _ _ e1, e2, e3⟩ (Nat.ne_of_lt (Heap.lt_size (Heap.get?_push_of_some _ e1))) (Heap.get?_push_size _ rfl) rfl (by first | (simp; done) | (simp; omega) | (simp only [Array.size_append]; simp; omega)) ?_
  refine hE _ _ (fun b o e => ?_) ⟨_, Heap.get?_update_self _ (Heap.get?_push_size _ rfl) rfl, rfl⟩
  rw [Heap.get?_update_other _ _ (Nat.ne_of_gt (Heap.lt_size (Heap.get?_push_of_some _ e)))]
  exact up _ _ _ _ e
theorem list_end_hot {it l x1 : Addr} {i : Nat} {items} {Q : Option Value → Shared → Prop} (hot : HotAt A x1 s.heap) (hit : s.heap.IsListIter it l i) (hl : s.heap.IsList l items) (hx : items[i]? = none)
    (hQ : ∀ h', Heap.ExtBut it s.heap h' → Q none { s with heap := h' }) : wpAny (model prog w) A (pyNext (.ref it)) Q E s := by
  obtain ⟨o, ho, hc, hd⟩ := id hit
  obtain ⟨ol, hol, _, nl, hdl⟩ := hl
  have hne : x1 ≠ it := by
    rintro rfl
    obtain ⟨_, o1, vs1, e1, e2, e3⟩ := hot
    rw [ho] at e1
    obtain rfl := Option.some.inj e1
    rw [hd] at e2
    cases e2
    simp at e3
  unfold pyNext
  refine wpAny_bind (wpAny_attempt (wpAny_callSpecial?_slot (name := Str.ofString "__next__") hit.typeIs slot_listiter_next (wpAny_call_entry slot_listiter_next hit.typeIs entry_listiter_next ?_ (args_listiter_next _))))
  show wpAny _ _ (field (.ref it) 0 >>= _) _ _ s
  refine wpAny_bind (wpAny_field ho hd (x := .ref l) rfl ?_)
  show wpAny _ _ (ite _ _ _) _ _ s
  rw [if_neg (show ¬ ((Value.ref l == Value.none) = true) from Bool.false_ne_true)]
  show wpAny _ _ (field (.ref it) 1 >>= _) _ _ s
  refine wpAny_bind (wpAny_field ho hd (x := .int i 0) rfl ?_)
  show wpAny _ _ (seqItems? (.ref l) >>= _) _ _ s
  refine wpAny_bind (wpAny_seqItems hol hdl ?_)
  simp only [Int.toNat_natCast, hx]
  refine wpAny_bind (wpAny_rule (wpAny_bind (wpAny_setField ho hd (by simp) ?_)))
  refine stop_hot (x1 := x1) (hot_up hot fun o1 _ e _ _ => (Heap.get?_update_other _ _ (Ne.symm hne)).trans e) fun a h' k t => ?_
  refine wpAny_bind (wpAny_isInstance (T := "StopIteration") (b := true) t isSubtype_stop ?_)
  exact wpAny_pure (hQ _ fun b ob hb e => k b ob ((Heap.get?_update_other _ _ (Ne.symm hb)).trans e))
theorem tup_end_hot {it t x1 : Addr} {i : Nat} {items} {Q : Option Value → Shared → Prop} (hot : HotAt A x1 s.heap) (hit : IsTupIter s.heap it t i) (ht : IsTup s.heap t items) (hx : items[i]? = none)
    (hQ : ∀ h', Heap.ExtBut it s.heap h' → Q none { s with heap := h' }) : wpAny (model prog w) A (pyNext (.ref it)) Q E s := by
  obtain ⟨o, ho, hc, hd⟩ := id hit
  obtain ⟨ot, hot', _, nt, hdt⟩ := ht
  have hne : x1 ≠ it := by
    rintro rfl
    obtain ⟨_, o1, vs1, e1, e2, e3⟩ := hot
    rw [ho] at e1
    obtain rfl := Option.some.inj e1
    rw [hd] at e2
    cases e2
    simp at e3
  unfold pyNext
  refine wpAny_bind (wpAny_attempt (wpAny_callSpecial?_slot (name := Str.ofString "__next__") hit.typeIs slot_tupleiter_next (wpAny_call_entry slot_tupleiter_next hit.typeIs entry_tupleiter_next ?_ (args_tupleiter_next _))))
  show wpAny _ _ (field (.ref it) 0 >>= _) _ _ s
  refine wpAny_bind (wpAny_field ho hd (x := .ref t) rfl ?_)
  show wpAny _ _ (ite _ _ _) _ _ s
  rw [if_neg (show ¬ ((Value.ref t == Value.none) = true) from Bool.false_ne_true)]
  show wpAny _ _ (field (.ref it) 1 >>= _) _ _ s
  refine wpAny_bind (wpAny_field ho hd (x := .int i 0) rfl ?_)
  show wpAny _ _ (seqItems? (.ref t) >>= _) _ _ s
  refine wpAny_bind (wpAny_seqItems hot' hdt ?_)
  simp only [Int.toNat_natCast, hx]
  refine wpAny_bind (wpAny_rule (wpAny_bind (wpAny_setField ho hd (by simp) ?_)))
  refine stop_hot (x1 := x1) (hot_up hot fun o1 _ e _ _ => (Heap.get?_update_other _ _ (Ne.symm hne)).trans e) fun a h' k t => ?_
  refine wpAny_bind (wpAny_isInstance (T := "StopIteration") (b := true) t isSubtype_stop ?_)
  exact wpAny_pure (hQ _ fun b ob hb e => k b ob ((Heap.get?_update_other _ _ (Ne.symm hb)).trans e))
theorem list_end_any {it l : Addr} {i : Nat} {items} {Q : Option Value → Shared → Prop} (hand : Hand A s.heap) (hit : s.heap.IsListIter it l i) (hl : s.heap.IsList l items) (hx : items[i]? = none)
    (hQ : ∀ h', Heap.ExtBut it s.heap h' → Q none { s with heap := h' }) : wpAny (model prog w) A (pyNext (.ref it)) Q E s := by
  rcases hand with hh | ⟨x1, hot⟩
  · exact wpAny_pyNext_list_end hh hit hl hx hQ
  · exact list_end_hot hot hit hl hx hQ
theorem tup_end_any {it t : Addr} {i : Nat} {items} {Q : Option Value → Shared → Prop} (hand : Hand A s.heap) (hit : IsTupIter s.heap it t i) (ht : IsTup s.heap t items) (hx : items[i]? = none)
    (hQ : ∀ h', Heap.ExtBut it s.heap h' → Q none { s with heap := h' }) : wpAny (model prog w) A (pyNext (.ref it)) Q E s := by
  rcases hand with hh | ⟨x1, hot⟩
  · exact next_tuple_end hh hit ht hx hQ
  · exact tup_end_hot hot hit ht hx hQ
theorem hand_up {h h' : Heap} (a : Hand A h) (k : ∀ b o vs, h.get? b = some o → o.data = .fields vs → 3 ≤ vs.size → h'.get? b = some o) : Hand A h' := by
  rcases a with hh | ⟨x1, hot⟩
  · exact .inl hh
  · refine .inr ⟨x1, hot_up hot fun o vs e1 e2 e3 => k x1 o vs e1 e2 ?_⟩
    exact (Array.getElem?_eq_some_iff.mp e3).1
/-- a, b, .. = a tuple -/
theorem unpack_any {t : Addr} {items : Array Value} {Q : List Value → Shared → Prop} (hand : Hand A s.heap) (ht : IsTup s.heap t items)
    (hQ : ∀ h', Heap.ExtBut s.heap.objs.size s.heap h' → Q items.toList { s with heap := h' }) : wpAny (model prog w) A (unpackItems (.ref t) items.size none) Q E s := by
  have hlt : t ≠ s.heap.objs.size := by
    obtain ⟨o, ho, _⟩ := ht
    exact Nat.ne_of_lt (Heap.lt_size ho)
  unfold unpackItems
  refine wpAny_bind ?_
  unfold notIterableAtAll
  refine wpAny_bind (wpAny_specialOf ht.typeIs slot_tuple_iter.lookup (wpAny_pure ?_))
  simp only [Bool.false_eq_true, if_false]
  refine wpAny_bind (wpAny_holding (iter_tuple ht ?_))
  refine wpAny_bind (wpAny_holding (draw_tuple hlt items.size 0 _ _ ⟨_, Heap.get?_push_size _ rfl, rfl, rfl⟩ (ht.push _) (by omega) fun h₁ hit₁ hs₁ => ?_))
  have hall : List.take items.size (List.drop 0 items.toList) = items.toList := by
    rw [List.drop_zero]
    exact List.take_of_length_le (by simp)
  rw [hall, if_neg (by simp)]
  have ht₁ : IsTup h₁ t items := (ht.push _).extBut hs₁.extBut hlt
  have up : ∀ b o, s.heap.get? b = some o → h₁.get? b = some o := fun b o e => hs₁.extBut b o (Nat.ne_of_lt (Heap.lt_size e)) (Heap.get?_push_of_some _ e)
  refine wpAny_bind (wpAny_holding (tup_end_any (s := { s with heap := h₁ }) (hand_up hand fun b o _ e _ _ => up b o e) hit₁ ht₁ (by simp) fun h₂ he₂ => ?_))
  simp only [Option.isSome_none, Bool.false_eq_true, if_false]
  exact wpAny_pure (hQ h₂ fun b o hb e => he₂ b o hb (up b o e))
end
/-- the context's own word for it -/
def HandX (X : Cx) : Prop := ∀ (pins : List (Addr × Obj)) (σ : L2.St) (H : Hp) (s : Shared), Inv X pins σ H s → Hand X.A s.heap
theorem handX_calm {X : Cx} (hc : X.calm = true) : HandX X := fun _ _ _ _ I => .inl (I.ok.hd hc)
theorem handX_hot {X : Cx} (hc : L2H.HotC X) : HandX X := fun _ _ _ _ I => .inr (hc.at I)
section
variable {X : Cx} {pos : Pos}
theorem pg_tupH {es : List Expr} {k : Nat} {t : TGs} {n : Nat} (hc : HandX X) (h : PGs X es t)
    (hn : (assignEach es X.env).length = n := by rfl) (hst : (assignEach es X.env).findIdx? (·.1) = none := by rfl) : PG X (.Tuple es k pos) (gTup X.K n t) := by
  constructor
  intro pins s σ H v u Q I r hw
  obtain ⟨a, xs, rfl, hq, hl, hw⟩ := hw
  cases r
  obtain ⟨its, rv, ht, hz⟩ := I.tuple hq
  have hlen : (assignEach es X.env).length = its.toArray.size := by simp [hn, ← hl, rv.length]
  rw [assign_Tuple]
  refine wpAny_bind (wpAny_standAt ?_)
  unfold unpack
  rw [hlen, hst]
  refine wpAny_bind (wpAny_holding (unpack_any (hc _ _ _ _ I) ht fun h' hx => ?_))
  have I1 : Inv X pins σ H { s with heap := h' } := I.kept (t' := s.toks) fun b o e => hx b o (Nat.ne_of_lt (Heap.lt_size e)) e
  exact h.run pins _ σ H xs _ Q I1 (by simpa using rv) hw
end
end Lay

set_option Elab.async false
set_option linter.all false
set_option maxRecDepth 100000
set_option maxHeartbeats 4000000
/-! LayD: a list comprehension whose turns leave the heap alone, also where an exception is handled -/
namespace Lay
open PySem PySem.Spec PyProof.Rows L2 HotX
/-- calm, or one known exception is handled -/
def Warm (X : Cx) : Prop := X.calm = true ∨ L2H.HotC X
theorem Warm.hand {X : Cx} (w : Warm X) : HandX X := w.elim handX_calm handX_hot
/-- the block's context that keeps the pinned exception in sight -/
abbrev blkP (X : Cx) (s : Shared) (H : Hp) (scope : Scope) (cenv : Env) (fp : List Addr) : Cx := (X.blk s H scope cenv fp).tr X.pn (fun _ _ => False)
theorem Warm.blk {X : Cx} (w : Warm X) {s : Shared} {H : Hp} {scope : Scope} {cenv : Env} {fp : List Addr} : Warm (blkP X s H scope cenv fp) := w
def tLcW (K : PySem.W.Frag) (tl : TE) (g : TG) (tt : TT) (te : TE) (vs : List Nat) : TE := fun σ H Q => tl σ H fun x H1 => ∃ a xs, ∃ f : V → Option V, x = .ref a ∧ SqL K H1 a xs ∧
  (∀ D acc y, H1 D = none → y ∈ xs → g y (wipe σ vs) (upd H1 D (.lst acc)) fun σ2 H2 => H2 = upd H1 D (.lst acc) ∧ wipe σ2 vs = wipe σ vs ∧ tt σ2 H2 fun b H3 => H3 = H2 ∧
    match f y with
    | none => b = false
    | some z => b = true ∧ te σ2 H2 fun z' H4 => H4 = H2 ∧ z' = z) ∧
  ∀ D, H1 D = none → Q (.ref D) (upd H1 D (.lst (xs.filterMap f)))
section
variable {X : Cx}
theorem lcW_at {elt tg l : Expr} {ifs : List Expr} {scope : Scope} {own : List (Str × Nat)} {pos : Pos} {tl : TE} {g : TG} {tt : TT} {te : TE} {pins : List (Addr × Obj)} {s : Shared} {σ : L2.St} {H : Hp} {Q : VK} (hw : Warm X) (hN : X.N.Nodup)
    (hl : ∀ R : VK, tl σ H R → wpAny (model X.prog X.w) X.A (eval l X.env) (EP X pins σ R) X.xe s) (ok : BlkOk X.N X.env.scope scope own)
    (hg : ∀ s H C cl fp, PG (blkP X s H scope (compEnvC scope cl C X.env) fp) tg g) (ht : ∀ s H C cl fp, PTs (blkP X s H scope (compEnvC scope cl C X.env) fp) ifs tt)
    (he : ∀ s H C cl fp, PE (blkP X s H scope (compEnvC scope cl C X.env) fp) elt te) (I : L2.Inv X pins σ H s) (h : tLcW X.K tl g tt te (own.map (·.2)) σ H Q) (hs : ∀ x, foldedSetIterable l X.env x = pure x := by intro _; rfl) :
    wpAny (model X.prog X.w) X.A (eval (.ListComp elt [⟨tg, l, ifs, 0⟩] scope pos) X.env) (EP X pins σ Q) X.xe s := by
  rw [eval_ListComp]
  have caught : ∀ y ∈ scope.names, y.2 = .free → ∃ c, X.env.cells.lookup y.1 = some c := fun y hy e => I.ok.has _ ((ok.free y hy e).imp id id)
  refine wpAny_comprehension_free (use := none) rfl hs (closure_ok caught) ok.kind (fun y hy e => by rw [ok.uniq y hy, e]) (thn (hl _ h) ?_)
  rintro u s1 ⟨x, H1, I1, r1, a, xs, f, rfl, sq, step, fin⟩
  cases r1
  obtain ⟨its, rv, isl, hz⟩ := I1.list sq
  refine wpAny_pyIter_list isl.isList ?_
  generalize hit : s1.heap.objs.size = it
  generalize e2 : ({ heap := s1.heap.push { cls := Value.type "list_iterator", data := Data.fields #[Value.ref a, Value.int 0 0] }, gens := s1.gens, drawn := s1.drawn, toks := s1.toks, os := s1.os } : Shared) = s2
  have w2 : s2.heap = s1.heap.push { cls := Value.type "list_iterator", data := Data.fields #[Value.ref a, Value.int 0 0] } := by rw [← e2]
  have keep12 : ∀ b o, s1.heap.get? b = some o → s2.heap.get? b = some o := fun b o e => by rw [w2]; exact Heap.get?_push_of_some _ e
  have I2 : L2.Inv X pins σ H1 s2 := e2 ▸ I1.kept (t' := s1.toks) fun b o e => Heap.get?_push_of_some _ e
  have li2 : s2.heap.IsListIter it a 0 := ⟨_, by rw [w2, ← hit]; exact Heap.get?_push_size _ rfl, rfl, rfl⟩
  refine wpAny_newObj_type (newEnv_comp ?_) (by show 0 ≤ sizeLine; decide)
  generalize hD : s2.heap.objs.size = D
  have noD : H1 D = none := I2.hok.fresh (Nat.le_of_eq hD)
  have itD : it ≠ D := by
    obtain ⟨o, e, _⟩ := li2
    rw [← hD]
    exact Nat.ne_of_lt (Heap.lt_size e)
  generalize e3 : ({ s2 with heap := s2.heap.push { cls := .type "list", data := .seq ([] : List Value).toArray } } : Shared) = s3
  have w3 : s3.heap = s2.heap.push { cls := .type "list", data := .seq ([] : List Value).toArray } := by rw [← e3]
  have keep23 : ∀ b o, s2.heap.get? b = some o → s3.heap.get? b = some o := fun b o e => by rw [w3]; exact Heap.get?_push_of_some _ e
  have I3 : L2.Inv X pins σ (upd H1 D (.lst [])) s3 := by
    have newL : ObjOk X.prog X.w (upd H1 D (.lst [])) (s2.heap.push { cls := .type "list", data := .seq ([] : List Value).toArray }) D (.lst []) := ⟨Nat.zero_le _, [], 0, .nil, by rw [← hD]; exact Heap.get?_push_size _ rfl⟩
    exact e3 ▸ I2.laid (t' := s2.toks) (fun b o e => Heap.get?_push_of_some _ e) (Nat.le_of_eq hD) newL
  have li3 : s3.heap.IsListIter it a 0 := li2.at fun o e => keep23 it o e
  have fresh_it : ∀ {H' : Hp}, H' it = none → FpOk X pins H' it := fun n => I1.fpOk (Nat.le_of_eq hit) n
  have nit : H1 it = none := I1.hok.fresh (Nat.le_of_eq hit)
  have B := block_start (fp := [it]) I3 ok hN (fun b hb => by
    obtain rfl : b = it := by simpa using hb
    obtain ⟨o, e, _⟩ := li3
    exact ⟨fresh_it (by rw [upd_ne itD]; exact nit), Heap.lt_size e⟩)
  have pg := hg s3 (upd H1 D (.lst [])) s3.heap.objs.size (cellsFrom (s3.heap.objs.size + 1) scope.names (cloFrom X.env.cells scope.names [])) [it]
  have pt := ht s3 (upd H1 D (.lst [])) s3.heap.objs.size (cellsFrom (s3.heap.objs.size + 1) scope.names (cloFrom X.env.cells scope.names [])) [it]
  have pe := he s3 (upd H1 D (.lst [])) s3.heap.objs.size (cellsFrom (s3.heap.objs.size + 1) scope.names (cloFrom X.env.cells scope.names [])) [it]
  show codeAny _ _ (.compStart (.ListComp elt [⟨tg, l, ifs, 0⟩] scope pos) 0 (.ref it) (.ref D) (compEnvC scope (cellsFrom (s3.heap.objs.size + 1) scope.names (cloFrom X.env.cells scope.names [])) s3.heap.objs.size X.env))
    (compPost (model X.prog X.w) X.A X.xe none (EP X pins σ Q) (.ref D) s3.heap.objs.size) { s3 with heap := pushCells (s3.heap.push { cls := .type "dict", data := .dict #[] }) scope.names }
  generalize hce : compEnvC scope (cellsFrom (s3.heap.objs.size + 1) scope.names (cloFrom X.env.cells scope.names [])) s3.heap.objs.size X.env = ce at B pg pt pe ⊢
  have ceL : ce.locals = s3.heap.objs.size := by rw [← hce]; rfl
  generalize e4 : ({ s3 with heap := pushCells (s3.heap.push { cls := .type "dict", data := .dict #[] }) scope.names } : Shared) = s4 at B ⊢
  have keep34 : ∀ b o, s3.heap.get? b = some o → s4.heap.get? b = some o := fun b o e => by rw [← e4]; exact pushCells_keeps _ _ _ _ (Heap.get?_push_of_some _ e)
  have li4 : s4.heap.IsListIter it a 0 := li3.at fun o e => keep34 it o e
  have J4 : L2.Inv (blkP X s3 (upd H1 D (.lst [])) scope ce [it]) [] (wipe σ (own.map (·.2))) (upd H1 D (.lst [])) s4 := by
    refine ⟨B.ok.toTry _ _, B.os, B.bare, B.base, B.loc, B.cell, B.free, B.freeC, fun p hp => ?_, B.hok, B.len⟩
    have hp' : p ∈ X.pn := by simpa using hp
    obtain ⟨p1, p2, p3, p4, p5⟩ := I3.pin p (List.mem_append_left _ hp')
    refine ⟨keep34 _ _ p1, p2, ?_, fun z => ?_, p5⟩
    · show p.1 ≠ ce.locals
      rw [ceL]
      exact Nat.ne_of_lt (Heap.lt_size p1)
    · rcases List.mem_cons.mp (I3.stkSub _ z) with z | z
      · exact p3 z
      · exact p4 z
  have sqD : ∀ acc, SqL X.K (upd H1 D (.lst acc)) a xs := fun acc => SqL.ext sq (Ext.upd noD)
  -- the loop
  have loop : codeAny (model X.prog X.w) X.A (.compLoop (.ListComp elt [⟨tg, l, ifs, 0⟩] scope pos) 0 (.ref it) (.ref D) ce) (compPost (model X.prog X.w) X.A X.xe none (EP X pins σ Q) (.ref D) s3.heap.objs.size) s4 := by
    refine compLoop_any (fun n s' => ∃ i, i ≤ xs.length ∧ n = xs.length - i ∧ L2.Inv (blkP X s3 (upd H1 D (.lst [])) scope ce [it]) [] (wipe σ (own.map (·.2))) (upd H1 D (.lst ((xs.take i).filterMap f))) s' ∧ s'.heap.IsListIter it a i) ?_ xs.length
      ⟨0, Nat.zero_le _, rfl, by rw [List.take_zero]; exact J4, li4⟩
    rintro n s5 ⟨i, hi, rfl, I5, li5⟩
    obtain ⟨its5, rv5, isl5, hz5⟩ := I5.list (sqD ((xs.take i).filterMap f))
    have len5 := rv5.length
    have fine : ∀ {s' : Shared} {H' : Hp} {σ' : L2.St}, L2.Inv (blkP X s3 (upd H1 D (.lst [])) scope ce [it]) [] σ' H' s' → H' it = none → FpOk (blkP X s3 (upd H1 D (.lst [])) scope ce [it]) [] H' it := fun I' n' => by
      refine ⟨n', (I'.ok.exf it (List.mem_singleton.mpr rfl)).1, I'.ok.exfs it (List.mem_singleton.mpr rfl), .inl (List.mem_singleton.mpr rfl), fun x c e => (I'.ok.exf it (List.mem_singleton.mpr rfl)).2 x c e, fun p hp z => ?_⟩
      have hp' : p ∈ X.pn := by simpa using hp
      have q := (I1.pin p (List.mem_append_left _ hp')).1
      rw [z, ← hit] at q
      exact absurd (Heap.lt_size q) (Nat.lt_irrefl _)
    have n5 : ∀ acc, upd H1 D (.lst acc) it = none := fun acc => by rw [upd_ne itD]; exact nit
    obtain ⟨f0, f1, f2, f3, f4, f5⟩ := fine I5 (n5 _)
    by_cases hlt : i < xs.length
    · have hx : xs[i]? = some xs[i] := List.getElem?_eq_getElem hlt
      obtain ⟨u, hu, ru⟩ := rv5.get hx
      refine thnF (wpAny_pyNext_list_item (Q := fun r s' => r = some u ∧ ∃ h', s' = { s5 with heap := h' } ∧ h'.IsListIter it a (i + 1) ∧ Heap.SameBut it s5.heap h') li5 isl5.isList (x := u) (by simpa using hu) fun h' st' sb => ⟨rfl, h', rfl, st', sb⟩) ?_
      rintro r s6 ⟨rfl, h', rfl, st', sb⟩
      have I6 : L2.Inv (blkP X s3 (upd H1 D (.lst [])) scope ce [it]) [] (wipe σ (own.map (·.2))) (upd H1 D (.lst ((xs.take i).filterMap f))) { s5 with heap := h' } := I5.turned (t' := s5.toks) (fun b o hb e => (sb.2 b hb).trans e) f0 f1 f3 f4 f5
      obtain ⟨oi, ei, ci, di⟩ := id st'
      refine thnF (go_of (Q := fun _ s' => s' = { s5 with heap := h' }) (s := { s5 with heap := h' }) ei ci di (by decide) rfl) ?_
      rintro _ s7 rfl
      have I7 := I6.pinned (fp := [it]) (fun b hb => by obtain rfl : b = it := by simpa using hb
                                                        exact fine I6 (n5 _)) (fun b hb => by obtain rfl : b = it := by simpa using hb
                                                                                              exact ⟨oi, ei, fun v z => by rw [di] at z; cases z⟩)
      refine thnF (pg.run _ _ _ _ xs[i] u _ I7 ru (step D _ xs[i] noD (List.getElem_mem hlt))) ?_
      rintro _ s8 ⟨σ8, H8, I8, rfl, w8, q8⟩
      refine thnF (pt.run _ s8 σ8 _ _ I8 q8) ?_
      rintro b s9 ⟨H9, I9, rfl, q9⟩
      -- the end of a turn
      have next : ∀ {s' : Shared}, L2.Inv (blkP X s3 (upd H1 D (.lst [])) scope ce [it]) ([] ++ pinsAt [it] h') σ8 (upd H1 D (.lst ((xs.take (i + 1)).filterMap f))) s' →
          ∃ m, m < xs.length - i ∧ ∃ i', i' ≤ xs.length ∧ m = xs.length - i' ∧ L2.Inv (blkP X s3 (upd H1 D (.lst [])) scope ce [it]) [] (wipe σ (own.map (·.2))) (upd H1 D (.lst ((xs.take i').filterMap f))) s' ∧ s'.heap.IsListIter it a i' := fun {s'} I' => by
        have q := (I'.pin (it, oi) (List.mem_append_right _ (List.mem_append_right _ (mem_pinsAt (by simp) ei)))).1
        refine ⟨xs.length - (i + 1), by omega, i + 1, hlt, rfl, (I'.unpinned (pins := [])).weak (by rw [← w8, wipe_length]) fun j v e => ?_, ⟨oi, q, ci, di⟩⟩
        rw [← w8] at e
        exact (wipe_some e).1
      have tk : (xs.take (i + 1)).filterMap f = (xs.take i).filterMap f ++ [xs[i]].filterMap f := by rw [List.take_succ_eq_append_getElem hlt, List.filterMap_append]
      have few : ((xs.take i).filterMap f).length < sizeLine := by
        have a1 := List.length_filterMap_le f (xs.take i)
        rw [List.length_take] at a1
        omega
      cases hf : f xs[i] with
      | none =>
        rw [hf] at q9
        obtain rfl : b = false := q9
        have e : (xs.take (i + 1)).filterMap f = (xs.take i).filterMap f := by rw [tk]; simp [hf]
        rw [if_neg Bool.false_ne_true]
        exact next (e ▸ I9)
      | some z =>
        rw [hf] at q9
        obtain ⟨rfl, q9⟩ := q9
        have e : (xs.take (i + 1)).filterMap f = (xs.take i).filterMap f ++ [z] := by rw [tk]; simp [hf]
        rw [if_pos rfl]
        refine thnF (pe.run _ s9 σ8 _ _ I9 q9) ?_
        rintro v s10 ⟨z', H10, I10, r10, rfl, rfl⟩
        refine app_ok (X := blkP X s3 (upd H1 D (.lst [])) scope ce [it]) I10 upd_same few r10 fun s11 I11 => next ?_
        rw [upd_upd] at I11
        rw [e]
        exact I11
    · have last : i = xs.length := by omega
      subst last
      have hand := (hw.blk (X := X) (s := s3) (H := upd H1 D (.lst [])) (scope := scope) (cenv := ce) (fp := [it])).hand _ _ _ _ I5
      refine thnF (list_end_any (Q := fun r s' => r = none ∧ ∃ h', s' = { s5 with heap := h' } ∧ Heap.ExtBut it s5.heap h') hand li5 isl5.isList (by simp; omega) fun h' eb => ⟨rfl, h', rfl, eb⟩) ?_
      rintro r s6 ⟨rfl, h', rfl, eb⟩
      have I6 : L2.Inv (blkP X s3 (upd H1 D (.lst [])) scope ce [it]) [] (wipe σ (own.map (·.2))) (upd H1 D (.lst ((xs.take xs.length).filterMap f))) { s5 with heap := h' } := I5.turned (t' := s5.toks) (fun b o hb e => eb b o hb e) f0 f1 f3 f4 f5
      rw [List.take_length] at I6
      have back : L2.Inv X pins σ (upd H1 D (.lst (xs.filterMap f))) { s5 with heap := h' } := I3.call' (ch := [it]) I6.os I6.base I6.hok I6.bare fun b hb => by
        obtain rfl : b = it := by simpa using hb
        have g := fresh_it (H' := upd H1 D (.lst [])) (n5 _)
        exact ⟨g.2.2.2.1, g.2.1, g.2.2.2.2.1, g.2.2.2.2.2⟩
      have nC : upd H1 D (.lst (xs.filterMap f)) s3.heap.objs.size = none := ceL ▸ I6.free
      obtain ⟨m, hn, _⟩ := I6.loc
      have hn : Heap.Ns h' s3.heap.objs.size m := ceL ▸ hn
      refine ⟨m, hn, fun h'' sb => ?_⟩
      obtain ⟨g0, g1, g2, g3, g4, g5⟩ := I3.fpOk (Nat.le_refl _) nC
      exact ⟨.ref D, _, back.turned (t' := s5.toks) (fun b o hb e => (sb.2 b hb).trans e) g0 g1 g3 g4 g5, rfl, fin D noD⟩
  exact codeAny_compStart_list loop (wpAny_pyIter_listiter li4 loop)
theorem pe_lcW {elt tg l : Expr} {ifs : List Expr} {scope : Scope} {own : List (Str × Nat)} {pos : Pos} {tl : TE} {g : TG} {tt : TT} {te : TE} (hw : Warm X) (hN : X.N.Nodup) (hl : PE X l tl) (ok : BlkOk X.N X.env.scope scope own)
    (hg : ∀ s H C cl fp, PG (blkP X s H scope (compEnvC scope cl C X.env) fp) tg g) (ht : ∀ s H C cl fp, PTs (blkP X s H scope (compEnvC scope cl C X.env) fp) ifs tt)
    (he : ∀ s H C cl fp, PE (blkP X s H scope (compEnvC scope cl C X.env) fp) elt te) (hs : ∀ x, foldedSetIterable l X.env x = pure x := by intro _; rfl) :
    PE X (.ListComp elt [⟨tg, l, ifs, 0⟩] scope pos) (tLcW X.K tl g tt te (own.map (·.2))) :=
  ⟨fun pins s σ H Q I h => lcW_at hw hN (fun R r => hl.run pins s σ H R I r) ok hg ht he I h hs⟩
end
end Lay

set_option Elab.async false
set_option linter.all false
set_option maxRecDepth 100000
set_option maxHeartbeats 4000000
/-! LayE: defs that are handed the exception which is being handled -/
namespace Lay
open PySem PySem.Spec PyProof.Rows L2 HotX L2H
/-- what a def promises where p is handled; the promise may name p -/
structure FnE (P : Program) (w : World) (K : PySem.W.Frag) (mg : Str → Option Value) (base : Heap) (CX : CXT) (k : Nat) (f : Addr) (fd : FuncData) (ps : List Str) (sp : Addr × Obj → Sp) : Prop where
  many : ∀ p vs H Q E, sp p vs H Q E → vs.length = ps.length
  runs : ∀ (p : Addr × Obj) (A : Around) (outer : List Env) (s : Shared) (H : Hp) (args : Args) (us : List Value) (vs : List V) (Q : VK) (E : XK), RoomH k A ∧ Hot1 A p ∧ PinOk outer H s p → Env0 P w K mg base A outer s H → BindsTo s fd args (ps.zip us) → Vals vs us →
    sp p vs H Q E → codeAny (model P w) A (.call (.ref f) args) (CR CX outer P w H s Q E) s
theorem fn_ofE {CX : CXT} {P : Program} {w : World} {K : PySem.W.Frag} {mg : Str → Option Value} {base : Heap} {k : Nat} {f : Addr} {name qual : Str} {params : Arguments} {body : List Stmt} {scope : Scope} {dV kV doc pm cdv ct oc : Value} {an od : Option Addr}
    {osl : Array (Option Value)} {N ps : List Str} {sp : Addr × Obj → Sp} (lk : K.lookup f = some ⟨oc, od, .func (PySem.W.fnOf name qual params body scope dV kV doc pm an cdv ct), osl⟩) (cd : PySem.W.codeIn K cdv qual = true) (S : FnScope N ps scope)
    (many : ∀ p vs H Q E, sp p vs H Q E → vs.length = ps.length)
    (inside : ∀ (p : Addr × Obj) (A : Around) (outer : List Env) (s : Shared) (H : Hp) (vs : List V) (Q : VK) (E : XK), Hot1 A p → RoomH k (A.deeper (envOfC qual scope s.heap.objs.size f cdv)) → sp p vs H Q E →
      ∃ t, PSs (cxH CX P w K mg base N qual scope f cdv A outer s H E p) body t ∧ t { nx := fun _ H' => Q .non H', rt := Q } (L2.start N vs) H) :
    FnE P w K mg base CX (k + 1) f (PySem.W.fnOf name qual params body scope dV kV doc pm an cdv ct) ps sp := by
  constructor
  · exact many
  · rintro p A outer s H args us vs Q E ⟨room, hot, pin⟩ env0 binds rel prom
    have number := many _ _ _ _ _ prom
    have kept : K.In s.heap := env0.mod.kin.keeps fun b o z => (env0.bs b o z).1
    have unlim : s.heap.NoLimit := env0.mod.nolimit.keeps fun b o z => (env0.bs b o z).1
    have kinds : ∀ y ∈ ps.zip us, scope.names.lookup y.1 = some .local ∨ (scope.names.lookup y.1 = some .cell ∧ ((cellsFrom (s.heap.objs.size + 1) scope.names []).lookup y.1).isSome = true) := by
      rintro ⟨n, v⟩ hy
      exact (S.par n (List.of_mem_zip hy).1).imp id fun q => ⟨q, PySem.W.cellsFrom_some _ _ _ (.inl q)⟩
    refine codeAny_call_function room.depth (kept _ _ lk) rfl S.co S.gen rfl (PySem.W.codeRec_of kept cd) (binds _ _ _ _ (wpAny_newFunctionEnv_cells S.kind kinds ?_))
    rintro env rfl s1 into
    refine ⟨unlim.keeps into.toInCall.keep, codeAny_func ?_⟩
    obtain ⟨t, walk, post⟩ := inside p A outer s H vs Q E hot (room.deeper _) prom
    refine wpAny_mono (walk.run [] s1 (L2.start N vs) H _ (inv_startH S pin env0 number rel into) post) ?_ fun _ _ z => z
    rintro (_ | _ | _ | u) s' out
    all_goals first
      | (obtain ⟨σ', H', J, q⟩ := out; exact ⟨V.non, H', J.os, J.bare, J.base, J.hok, (rfl : Value.none = Value.none), q⟩)
      | (obtain ⟨_, _, _, q⟩ := out; exact q.elim)
      | (obtain ⟨v, σ', H', J, rv, q⟩ := out; exact ⟨v, H', J.os, J.bare, J.base, J.hok, rv, q⟩)
/-- X handles p -/
structure HasP (X : Cx) (p : Addr × Obj) : Prop where
  hot : Hot1 X.A p
  mem : p ∈ X.pn
theorem HasP.warm {X : Cx} {p : Addr × Obj} (h : HasP X p) : Warm X := .inr ⟨p, h.hot, h.mem⟩
theorem HasP.hotC {X : Cx} {p : Addr × Obj} (h : HasP X p) : L2H.HotC X := ⟨p, h.hot, h.mem⟩
section
variable {X : Cx} {CX : CXT} {k : Nat} {f : Addr} {fd : FuncData} {ps : List Str} {sp : Addr × Obj → Sp} {E : L2.St → XK} {x : Str} {q pos : Pos} {e : Expr} {es : List Expr} {t : TA} {p : Addr × Obj}
theorem pe_callE (F : FnE X.prog X.w X.K X.mg X.base CX k f fd ps sp) (room : RoomH k X.A) (hp : HasP X p) (hg : Gl X x) (hm : X.mg x = some (.ref f)) (hk : PySem.W.keepIn X.K (.ref f) = true) (hb : Binds X.K fd ps []) (hx : ∀ σ, PassesAt CX X σ (E σ))
    (ha : PA X (e :: es) t) (hdb : (x == ("__debug__" : Str)) = false := by decide) (he : starEach (e :: es) X.env = (false, eval e X.env) :: starEach es X.env := by rfl) (hpl : (backTo pos (starEach es X.env)).any (·.1) = false := by rfl) :
    PE X (.Call (.Name x q) (e :: es) [] pos) (tCallS (sp p) E t) := by
  constructor
  intro pins s σ H Q I h
  refine wpAny_Call_Name_kw (ld_glob I hg hm ?_ hdb)
  refine PySem.W.callWith_K (h₀ := X.base) I.ok.mod.kin hk (thn (ha.run pos pins s σ H _ I h) ?_) he hpl
  rintro us s1 ⟨vs, H1, I1, r, prom⟩
  refine ⟨I1.kIn, ?_⟩
  have number : us.length = ps.length := r.length.symm.trans (F.many _ _ _ _ _ prom)
  have bound := hb s1 us I1.kIn (by rw [List.append_nil]; exact number)
  rw [List.append_nil] at bound
  obtain ⟨g1, g2, g3, g4, g5⟩ := I1.pin p (List.mem_append_left _ hp.mem)
  have pin : PinOk X.stack H1 s1 p := ⟨g1, g2, fun z => (List.mem_cons.mp (I1.stkSub p.1 z)).elim g3 g4, g5⟩
  refine wpAny_call (codeAny_mono (F.runs p X.A X.stack s1 H1 ⟨us, []⟩ us vs Q (E σ) ⟨room, hp.hot, pin⟩ I1.env0 bound r prom) ?_)
  rintro (er | _ | _ | _ | u) s' out
  all_goals first
    | exact hx σ pins H1 s1 _ s' I1 out
    | exact I1.after out
    | exact False.elim out
/-- the exception's dict stands, if it has one -/
def DictP (H : Hp) (o : Obj) : Prop := o.dict = none ∨ ∃ (dd : Addr) (fs : List (Str × V)), o.dict = some dd ∧ H dd = some (.xd fs)
theorem inst_p {pins : List (Addr × Obj)} {σ : L2.St} {H : Hp} {s : Shared} {D : Addr} (I : L2.Inv X pins σ H s) (hp : p ∈ X.pn) (hc : p.2.cls = .ref D) (hf : ∃ vs, p.2.data = .fields vs) (hd : DictP H p.2) : ∃ od, PySem.W.InstAt s.heap p.1 p.2 D od := by
  obtain ⟨here, _⟩ := I.pin p (List.mem_append_left _ hp)
  obtain ⟨a, oc, od, oda, osl⟩ := p
  obtain ⟨vs, hv⟩ := hf
  dsimp only at hc hv here ⊢
  subst hc hv
  rcases hd with z | ⟨dd, fs, z, t⟩
  · dsimp only at z
    subst z
    exact ⟨none, here, rfl, rfl, trivial⟩
  · dsimp only at z
    subst z
    obtain ⟨mA, ns, _⟩ := (show ObjOk X.prog X.w H s.heap dd (.xd fs) from I.hok dd _ t)
    obtain ⟨o2, h2, _⟩ := lookIn_ns ns
    exact ⟨some o2, here, rfl, rfl, h2⟩
/-- isinstance(e, c), e an exception that stands pinned -/
def rIsP (K : PySem.W.Frag) (D : Addr) (p : Addr × Obj) : List V → Hp → VK → Prop := fun xs H Q => ∃ (c : V) (cv : Value) (b : Bool), xs = [.ref p.1, c] ∧ (∀ u, RelV c u → u = cv) ∧ PySem.W.kitOne K (.ref D) cv = some b ∧ DictP H p.2 ∧ Q (.bl b) H
theorem call_isP {D : Addr} (hp : p ∈ X.pn) (C : ExcC X.K D) (hc : p.2.cls = .ref D) (hf : ∃ vs, p.2.data = .fields vs) : CallR X (.builtin "isinstance") (rIsP X.K D p) := by
  intro pins s σ H xs us Q I r h
  obtain ⟨c, cv, b, rfl, hcv, e, dp, q⟩ := h
  cases r with
  | cons rx rr =>
    cases rr with
    | cons rt rr =>
      cases rr
      cases rx
      obtain rfl := hcv _ rt
      have cl : (PySem.W.clsIn X.K D).isSome = true := by
        obtain ⟨cd, hcd, _⟩ := PySem.W.any_some C.hd
        rw [hcd]; rfl
      obtain ⟨od', J⟩ := inst_p I hp hc hf dp
      exact PySem.W.kia_one (PySem.W.kitx_exc cl C.hg C.hk C.hs C.ha C.hn C.ht C.hm) I.kIn J e (fun z => nomatch z) fun tk => ⟨.bl b, H, I.kept (t' := tk) fun _ _ z => z, rfl, q⟩
/-- e.f -/
def tXp (C : Addr) (p : Addr × Obj) (f : Str) (te : TE) : TE := fun σ H Q => te σ H fun x H1 => x = .ref p.1 ∧ p.2.cls = .ref C ∧ ∃ (dd : Addr) (fs : List (Str × V)) (v : V), p.2.dict = some dd ∧ H1 dd = some (.xd fs) ∧ fs.lookup f = some v ∧ Q v H1
theorem pe_xp {C : Addr} {te : TE} {n : Str} (hp : p ∈ X.pn) (T : XfC X.K C) (hno : PySem.W.findIn X.K (.ref C) n = some none) (hf : ∃ vs, p.2.data = .fields vs) (he : PE X e te) (hb : attributeBase e n X.env (eval e X.env) = eval e X.env := by rfl) :
    PE X (.Attribute e n pos) (tXp C p n te) := by
  constructor
  intro pins s σ H Q I h
  refine attr_of hb (thn (he.run pins s σ H _ I h) ?_)
  rintro u s1 ⟨x, H1, I1, rx, rfl, hc, dd, fs, v, ed, ea, look, q⟩
  obtain rfl : u = Value.ref p.1 := rx
  obtain ⟨here, _⟩ := I1.pin p (List.mem_append_left _ hp)
  obtain ⟨a, oc, od, oda, osl⟩ := p
  obtain ⟨vs, hv⟩ := hf
  dsimp only at hc hv here ed ⊢
  subst hc hv ed
  obtain ⟨mA, ns, rel⟩ := (show ObjOk X.prog X.w H1 s1.heap dd (.xd fs) from I1.hok dd _ ea)
  obtain ⟨o2, h2, hl⟩ := lookIn_ns ns
  obtain ⟨u, hu, ru⟩ := RelO.some_of (v := v) (o := mA n) (by rw [← look]; exact rel n)
  exact HandSPX.exc_get I1.kIn ⟨here, rfl, rfl, h2⟩ T.ga T.gg T.exC (PySem.W.findObj_own T.hdC hno rfl (by rw [hl, hu])) (handed_of ru) ⟨v, H1, I1.tok _, ru, q⟩
end
end Lay

set_option Elab.async false
set_option linter.all false
set_option maxRecDepth 100000
set_option maxHeartbeats 4000000
/-! LayF: try with many clauses, each of them with the same name behind as -/
namespace Lay
open PySem PySem.Spec PyProof.Rows L2 HotX L2H
/-- a clause's test answers m of the exception's class -/
def Tst (X : Cx) (test : Expr) (m : Value → Option Bool) : Prop :=
  ∀ (p : Addr × Obj) (pn pins : List (Addr × Obj)) (σ : L2.St) (H : Hp) (s : Shared) (b : Bool) (Q : Bool → Shared → Prop) (E : Value → Shared → Prop), L2.Inv (X.suite p.1 (p :: pn)) pins σ H s → m p.2.cls = some b →
    (∀ h' tk', (∀ c o, s.heap.get? c = some o → h'.get? c = some o) → Q b { s with heap := h', toks := tk' }) →
    wpAny (model X.prog X.w) (X.A.mark (some (.ref p.1))) (eval test X.env) (fun c s1 => wpAny (model X.prog X.w) (X.A.mark (some (.ref p.1))) (excMatches (.ref p.1) c) Q E s1) E s
theorem tst_name {X : Cx} {x : Str} {c : Value} {np : Pos} (hc : Names X x c) : Tst X (.Name x np) (fun cls => PySem.W.exmOne X.K cls c) := by
  intro p pn pins σ H s b Q E I hm h
  have at_p := (I.pin p (List.mem_append_left _ List.mem_cons_self)).1
  have ty : PySem.W.Looks (model X.prog X.w) s.heap (typeOf (.ref p.1)) p.2.cls := fun A Q E s k q => wpAny_typeOf_ref (k _ _ at_p) q
  have ans := PySem.W.exm_one (M := model X.prog X.w) I.kIn ty hm
  have go : wpAny (model X.prog X.w) (X.A.mark (some (.ref p.1))) (excMatches (.ref p.1) c) Q E s := ans.here (h s.heap s.toks fun _ _ z => z)
  obtain ⟨hg, hdbg, hm | ⟨hm, hv, hnn⟩⟩ := hc
  · exact ld_glob (X := X.suite p.1 (p :: pn)) I hg hm go hdbg
  · exact ld_blt (X := X.suite p.1 (p :: pn)) I hg hm hv go hnn hdbg
/-- the ends of a suite whose name goes -/
def goneD (i : Nat) (D : Ends) : Ends := { nx := fun σ H => D.nx (σ.set i none) H, rt := D.rt, bk := fun σ H => D.bk (σ.set i none) H, ct := fun σ H => D.ct (σ.set i none) H }
abbrev Clause := (Value → Option Bool) × (Addr × Obj → TS)
def wAll (i : Nat) (Wout : WX) (D : Ends) : List Clause → WX
  | [] => Wout
  | (m, ts) :: r => fun cls d σ H => ∃ b, m cls = some b ∧ (b = true → ∀ p : Addr × Obj, p.2.cls = cls → p.2.dict = d → (∃ vs, p.2.data = .fields vs) → H p.1 = none → ts p (goneD i D) (σ.set i (some (.ref p.1))) H) ∧ (b = false → wAll i Wout D r cls d σ H)
inductive HdsA (X : Cx) (n : Str) : List ExceptHandler → List Clause → Prop
  | nil : HdsA X n [] []
  | cons {test : Expr} {m : Value → Option Bool} {ts : Addr × Obj → TS} {b₀ : Stmt} {suite : List Stmt} {pos' : Pos} {hds : List ExceptHandler} {l : List Clause} (ht : Tst X test m)
      (hsu : ∀ (p : Addr × Obj) (pn : List (Addr × Obj)), HasP (X.suite p.1 (p :: pn)) p → (∃ vs, p.2.data = .fields vs) → PSs (X.suite p.1 (p :: pn)) (b₀ :: suite) (ts p)) (r : HdsA X n hds l) :
      HdsA X n (.ExceptHandler (some test) (some n) (b₀ :: suite) pos' :: hds) ((m, ts) :: l)
theorem flying_grow {B h h' : Heap} {outer : List Env} {a : Addr} {Z : Obj → Prop} (f : HandSPX.FlyingZ B outer a Z h) (k : ∀ c o, h.get? c = some o → h'.get? c = some o) : HandSPX.FlyingZ B outer a Z h' := by
  obtain ⟨f1, f2, f3, oe, vs, T, oT, ts, g1, g2, g3, g4, g5, g6, g7, g8, g9⟩ := f
  exact ⟨fun b o z => k b o (f1 b o z), f2, f3.of_keeps fun b o z _ => ⟨o, k b o z, rfl⟩, oe, vs, T, oT, ts, k _ _ g1, g2, g3, g4, g5, g6, k _ _ g7, g8, g9⟩
section
variable {X : Cx} {n : Str} {i : Nat} {body : List Stmt} {h₀ : ExceptHandler} {hds : List ExceptHandler} {l : List Clause} {pos : Pos} {tb : WX → TS} {Wout : WX}
theorem ps_try_all (hs : X.stack = X.env :: X.outer) (hf : X.env.frame = some X.env.locals) (hN : X.N.Nodup) (hi : X.N[i]? = some n) (hln : X.env.kindOf n = some .local) (tk : L2N.Takes X Wout)
    (hb : ∀ (W : WX) (pn : List (Addr × Obj)) (xe : Value → Shared → Prop), L2N.Takes (X.tr pn xe) W → PassesOwn (model X.prog X.w) X.A X.env xe → PSs (X.tr pn xe) body (tb W)) (hh : HdsA X n (h₀ :: hds) l) :
    PS X (.Try body (h₀ :: hds) [] [] pos) (fun D σ H => tb (wAll i Wout D l) D σ H) := by
  constructor
  intro pins s σ H D I h
  have ok := I.ok
  have frm : X.A.frames = some (X.env :: X.outer) := by rw [ok.frames, hs]
  refine wpAny_Try_except (wpAny_mono ((hb (wAll i Wout D l) (X.pn ++ pins) (fun e s₁ => wpAny (model X.prog X.w) X.A (noteFrame e X.env) (fun _ s₂ => wpAny (model X.prog X.w) X.A (setFlight e none)
    (fun _ s₃ => wpAny (model X.prog X.w) X.A (handleBy e X.env (h₀ :: hds)) (SP X pins D) X.xe s₃) X.xe s₂) X.xe s₁) ?_ PassesOwn.looking).run [] s σ H D (I.toTry _) h) ?_ fun e s1 he => he)
  · -- caught
    rintro u s' ⟨a, B, sI, pins', σ', H', cls, d, rfl, J0, nb, up, sky, na, os, ag, wish⟩
    have J := J0.ofTry ok
    have sky2 : Sky B (X.env :: X.outer) a (L2N.Zn cls d) X.env.locals s'.heap := by rw [← hs]; exact sky
    refine L2N.Sky.land L2N.Zn.steady frm hf sky2 fun h3 fl3 up3 => ?_
    -- by the clauses, whatever the tests have laid
    have walk : ∀ {hds' : List ExceptHandler} {l' : List Clause}, HdsA X n hds' l' → wAll i Wout D l' cls d σ' H' → ∀ (h5 : Heap) (t5 : Nat), HandSPX.FlyingZ B (X.env :: X.outer) a (L2N.Zn cls d) h5 → s'.heap.UpToSlots h5 →
        wpAny (model X.prog X.w) X.A (handleBy (.ref a) X.env hds') (SP X pins D) X.xe { s' with heap := h5, toks := t5 } := by
      intro hds' l' hk
      induction hk with
      | nil =>
        intro w h5 t5 fl up5
        refine wpAny_handleBy_nil ?_
        obtain ⟨_, _, _, oe, vs, T, oT, ts', he, hz, hd, h1, hr⟩ := id fl
        have out : wpAny (model X.prog X.w) X.A (setFlight (.ref a) X.env.frame) (fun _ s4 => wpAny (model X.prog X.w) X.A (throw (.ref a) : Sem Flow) (SP X pins D) X.xe s4) X.xe { s' with heap := h5, toks := t5 } := by
          rw [hf]
          refine HandSPX.setFlight_upZ fl fun h6 held up6 => wpAny_throw (tk _ _ ?_)
          exact ⟨a, B, sI, pins, σ', H', cls, d, rfl, J, nb, (up.trans up5).trans up6, .inr (.inr (by rw [hs]; exact held)), na, os, ag, w⟩
        unfold PySem.passOn
        refine wpAny_bind (wpAny_field he hd h1 ?_)
        rw [if_neg (show ¬ ((Value.ref T == Value.none) = true) from by simp)]
        first
          | exact wpAny_bind (wpAny_pure (wpAny_bind out))
          | exact wpAny_bind out
      | @cons test m ts b₀ suite pos' hds2 l2 ht hsu r ih =>
        rintro ⟨b, mb, yes, no⟩ h5 t5 fl up5
        obtain ⟨oe, vs, he, hz, hd⟩ := fl.there
        have sec : ∀ {h6 : Heap} {o : Obj} {vs : Array Value}, HandSPX.FlyingZ B (X.env :: X.outer) a (L2N.Zn cls d) h6 → h6.get? a = some o → o.data = .fields vs → a ≠ X.env.locals ∧ a ∉ X.fs := fun {h6 o vs} f6 e dd => by
          have away : a ∉ frs (X.env :: X.outer) := fun z => by
            obtain ⟨_, o', e', nf⟩ := f6.2.2.1.mem z
            rw [e] at e'
            cases e'
            exact nf _ dd
          refine ⟨fun z => away (List.mem_filterMap.mpr ⟨X.env, List.mem_cons_self, by rw [hf, z]⟩), fun z => ?_⟩
          obtain ⟨ev, hev, q⟩ := List.mem_filterMap.mp z
          exact away (List.mem_filterMap.mpr ⟨ev, List.mem_cons_of_mem _ hev, q⟩)
        have J5 : L2.Inv X pins σ' H' { s' with heap := h5, toks := t5 } := J.landed nb fl.1 (up.trans up5) os ag
        have S5 := J5.suite he hd na (sec fl he hd).1 (sec fl he hd).2
        refine wpAny_handleBy_cons (codeAny_handlers_test ?_) (by intro q; cases q)
        refine ht (a, oe) (X.pn ++ pins) [] σ' H' _ b _ _ S5 (by show m oe.cls = _; rw [hz.1]; exact mb) fun h6 t6 k6 => ?_
        have fl6 := flying_grow fl k6
        have up6 : s'.heap.UpToSlots h6 := up5.trans (Heap.UpToSlots.of_keeps k6)
        cases b with
        | false => exact ih (no rfl) h6 t6 fl6 up6
        | true =>
          refine codeAny_handlers_suite_as (HandSPX.lands_againZ fl6 fun h7 fl7 up7 => ?_)
          obtain ⟨oe7, vs7, he7, hz7, hd7⟩ := fl7.there
          have J7 : L2.Inv X pins σ' H' { s' with heap := h7, toks := t6 } := J.landed nb fl7.1 ((up.trans up6).trans up7) os ag
          have S7 := J7.suite he7 hd7 na (sec fl7 he7 hd7).1 (sec fl7 he7 hd7).2
          have has : HasP (X.suite a ((a, oe7) :: (X.pn ++ pins))) (a, oe7) := ⟨⟨rfl, vs7, hd7, hz7.2.2 vs7 hd7⟩, List.mem_cons_self⟩
          refine store_ok (X := X.suite a ((a, oe7) :: (X.pn ++ pins))) (v := .ref a) S7 hN hi (.inl hln) rfl (fun s8 S8 => ?_) (.inr hln)
          refine wpAny_mono ((hsu (a, oe7) (X.pn ++ pins) has ⟨_, hd7⟩).run [] s8 _ H' _ S8 (yes rfl (a, oe7) hz7.1 hz7.2.1 ⟨_, hd7⟩ na)) ?_ fun _ _ z => z.elim
          intro f s9 out
          have ends : ∀ {σ9 : L2.St} {H9 : Hp} {Q : Shared → Prop}, L2.Inv (X.suite a ((a, oe7) :: (X.pn ++ pins))) [] σ9 H9 s9 → (∀ s10, L2.Inv X pins (σ9.set i none) H9 s10 → Q s10) →
              wpAny (model X.prog X.w) X.A (do bindName X.env n .none; unbindBehindTheSuite X.env n pos') (fun _ s10 => Q s10) X.xe s9 := fun S9 hq => gone_ok (S9.unsuite ok) hN hi hln hq
          cases f with
          | ret u =>
            obtain ⟨v9, σ9, H9, S9, r9, q9⟩ := out
            exact ends S9 fun _ J9 => ⟨_, _, _, J9, r9, q9⟩
          | next =>
            obtain ⟨σ9, H9, S9, q9⟩ := out
            exact ends S9 fun _ J9 => ⟨_, _, J9, q9⟩
          | brk =>
            obtain ⟨σ9, H9, S9, q9⟩ := out
            exact ends S9 fun _ J9 => ⟨_, _, J9, q9⟩
          | cont =>
            obtain ⟨σ9, H9, S9, q9⟩ := out
            exact ends S9 fun _ J9 => ⟨_, _, J9, q9⟩
    exact walk hh wish h3 s'.toks fl3 up3
  · rintro (_ | _ | _ | u) s1 out
    · obtain ⟨σ1, H1, J1, q⟩ := out
      exact wpAny_execs_nil ⟨σ1, H1, J1.ofTry ok, q⟩
    · obtain ⟨σ1, H1, J1, q⟩ := out
      exact ⟨σ1, H1, J1.ofTry ok, q⟩
    · obtain ⟨σ1, H1, J1, q⟩ := out
      exact ⟨σ1, H1, J1.ofTry ok, q⟩
    · obtain ⟨v, σ1, H1, J1, r, q⟩ := out
      exact ⟨v, σ1, H1, J1.ofTry ok, r, q⟩
end
end Lay

set_option Elab.async false
set_option linter.all false
set_option maxRecDepth 100000
set_option maxHeartbeats 4000000
/-! LayG: lambdas without parameters handed to defs, by any kind of exceptions -/
namespace Lay
open PySem PySem.Spec PyProof.Rows L2 LamX
/-- from the state at (H, s) on: f may be called; spL is what it promises. fs: the frames of those who stand above it -/
def LamOk (P : Program) (w : World) (K : PySem.W.Frag) (mg : Str → Option Value) (base : Heap) (CX : CXT) (j : Nat) (fs : List Addr) (s : Shared) (H : Hp) (f : Addr) (spL : Hp → VK → XK → Prop) : Prop :=
  ∀ (A : Around) (outer : List Env) (s' : Shared) (H' : Hp) (Q : VK) (E : XK), Room j A → Env0 P w K mg base A outer s' H' → Un fs [] H H' s.heap s'.heap → spL H' Q E →
    PySem.W.FnAt f s'.heap ∧ codeAny (model P w) A (.call (.ref f) ⟨[], []⟩) (CR CX outer P w H' s' Q E) s'
theorem un_under {fs fs1 : List Addr} {H0 H1 H2 : Hp} {h0 h1 h2 : Heap} (a : Un fs [] H0 H1 h0 h1) (b : Un fs1 [] H1 H2 h1 h2) (hf : ∀ c ∈ fs1, c ∈ fs ∨ h0.get? c = none) : Un fs [] H0 H2 h0 h2 where
  keep := fun c o e n nf _ => b.keep c o (a.keep c o e n nf (by simp)) (a.free c o e n (by simp)) (fun z => (hf c z).elim nf fun q => by rw [e] at q; cases q) (by simp)
  slot := fun c o e n yf _ => by
    obtain ⟨sl, e1⟩ := a.slot c o e n yf (by simp)
    obtain ⟨sl2, e2⟩ := b.any e1 (a.free c o e n (by simp)) (by simp)
    exact ⟨sl2, e2⟩
  free := fun c o e n _ => by
    obtain ⟨sl, e1⟩ := a.any e n (by simp)
    exact b.free c _ e1 (a.free c o e n (by simp)) (by simp)
  there := fun c o e _ => by
    obtain ⟨o1, e1⟩ := a.there c o e (by simp)
    exact b.there c o1 e1 (by simp)
  tups := fun c xs e => b.tups c xs (a.tups c xs e)
  frzs := fun c o u e => b.frzs c o u (a.frzs c o u e)
  tbls := fun c ps e => by
    obtain ⟨m1, e1⟩ := a.tbls c ps e
    obtain ⟨m2, e2⟩ := b.tbls c _ e1
    exact ⟨m1 ++ m2, by rw [e2, Array.append_assoc]⟩
/-- known at a def's entry, so at any place of its body -/
theorem lam_inner {X : Cx} {pins : List (Addr × Obj)} {σ : L2.St} {H : Hp} {s : Shared} {CX : CXT} {j : Nat} {f : Addr} {spL : Hp → VK → XK → Prop} (hx : X.ex = []) (I : L2.Inv X pins σ H s) (l : LamOk X.prog X.w X.K X.mg X.base CX j X.fs X.s_0 X.H_0 f spL) :
    LamOk X.prog X.w X.K X.mg X.base CX j (frs X.stack) s H f spL := by
  intro A outer s' H' Q E room e0 un prom
  have below := I.base
  rw [hx] at below
  refine l A outer s' H' Q E room e0 (un_under below un fun c z => ?_) prom
  rcases List.mem_cons.mp (I.stkSub c z) with q | q
  · refine .inr ?_
    cases g : X.s_0.heap.get? c with
    | none => rfl
    | some o =>
      have := Heap.lt_size g
      rw [q] at this
      exact absurd (Nat.lt_of_lt_of_le this I.ok.above) (Nat.lt_irrefl _)
  · exact .inl q
/-- the context of the lambda's body, its exceptions by CX -/
def lamCxN (CX : CXT) (X : Cx) (A : Around) (outer : List Env) (s : Shared) (H : Hp) (E : XK) (scope : Scope) (f c' : Addr) : Cx :=
  (lamCx X A outer s H E scope f c').tr [] fun e s' => wpAny (model X.prog X.w) (A.deeper (lamEnv X scope s.heap.objs.size f c')) (leaving (lamEnv X scope s.heap.objs.size f c') e) (fun _ s'' => CX outer H s E e s'') (fun e' s'' => CX outer H s E e' s'') s'
section
variable {X : Cx} {CX : CXT}
theorem lam_ok {pins : List (Addr × Obj)} {σ : L2.St} {H : Hp} {s : Shared} {f c' : Addr} {pm ctv : Value} {params : Arguments} {body : Expr} {scope : Scope} {k : Nat} {t : XK → TE} (I : L2.Inv X pins σ H s) (L : LamS X.env.scope scope)
    (hf : s.heap.get? f = some (PySem.W.kla_obj "<lambda>" (X.env.qual ++ "<lambda>") params body scope (cloFrom X.env.cells scope.names []) pm c' ctv)) (hfn : H f = none) (hfr : f ∉ frs X.stack)
    (hbind : bindArgs (PySem.W.kla_fn "<lambda>" (X.env.qual ++ "<lambda>") params body scope (cloFrom X.env.cells scope.names []) pm (.ref c') ctv) ⟨[], []⟩ = pure [])
    (hbody : ∀ (A : Around) (outer : List Env) (s : Shared) (H : Hp) (E : XK), Room k (A.deeper (lamEnv X scope s.heap.objs.size f c')) → PE (lamCxN CX X A outer s H E scope f c') body (t E)) :
    LamOk X.prog X.w X.K X.mg X.base CX (k + 1) (frs X.stack) s H f (fun H' Q E => H' c' = some (CodeO c' (X.env.qual ++ "<lambda>")) ∧ t E σ H' Q) := by
  rintro A outer s1 H1 Q E room e0 un ⟨hc, prom⟩
  have there : s1.heap.get? f = some (PySem.W.kla_obj "<lambda>" (X.env.qual ++ "<lambda>") params body scope (cloFrom X.env.cells scope.names []) pm c' ctv) := un.keep f _ hf hfn hfr (by simp)
  refine ⟨⟨_, _, _, _, there⟩, ?_⟩
  obtain ⟨⟨oc, vs, t0, hoc, hdc, hvc⟩, _, _⟩ := e0.hok c' _ hc
  have lim : s1.heap.NoLimit := e0.mod.nolimit.keeps fun b o e => (e0.bs b o e).1
  refine PySem.W.kla_callFunE room.depth there rfl L.co L.gen rfl ⟨c', oc, vs, t0, rfl, hoc, hdc, hvc⟩ ?_
  rw [hbind]
  refine wpAny_pure (wpAny_newFunctionEnv (fun y hy => (L.own y hy).2) (fun y hy => absurd hy (by simp)) (fun h₁ hns hsb => ⟨lim.fresh _ hsb, ?_⟩) L.kind)
  show codeAny _ _ (.expr body (lamEnv X scope s1.heap.objs.size f c')) _ _
  have kp : ∀ b o, s1.heap.get? b = some o → h₁.get? b = some o := fun b o e => hsb.extBut b o (Nat.ne_of_lt (Heap.lt_size e)) (Heap.get?_push_of_some _ e)
  have J0 := lam_start2 (E := E) (f := f) (c' := c') (tk := s1.toks + ([] : List (Str × Value)).length) I L e0 room.hd un hns kp
  have J : L2.Inv (lamCxN CX X A outer s1 H1 E scope f c') [] σ H1 { s1 with heap := h₁, toks := s1.toks + ([] : List (Str × Value)).length } :=
    ⟨J0.ok.toTry _ _, J0.os, J0.bare, J0.base, J0.loc, J0.cell, J0.free, J0.freeC, fun p hp => absurd (show p ∈ ([] : List (Addr × Obj)) ++ [] from hp) (by simp), J0.hok, J0.len⟩
  refine PySem.W.kla_codeExpr (wpAny_mono ((hbody A outer s1 H1 E (room.deeper _)).run [] _ _ H1 Q J prom) ?_ fun e s' hq => hq)
  rintro v s' ⟨x, H', J', rv, q⟩
  exact ⟨x, H', J'.os, J'.bare, J'.base, J'.hok, rv, q⟩
/-- a(), a the local that bears the lambda -/
theorem pe_actN {j i : Nat} {a : Str} {f : Addr} {spL : Hp → VK → XK → Prop} {E : L2.St → XK} {p1 p2 : Pos} (hex : X.ex = []) (l : LamOk X.prog X.w X.K X.mg X.base CX j X.fs X.s_0 X.H_0 f spL) (room : Room j X.A) (hx : ∀ σ, PassesAt CX X σ (E σ))
    (hN : X.N[i]? = some a) (hv : Vis X.env.scope a) (hd : (a == ("__debug__" : Str)) = false := by decide) (hcd : (a == ("__classdict__" : Str)) = false := by decide) :
    PE X (.Call (.Name a p1) [] [] p2) (fun σ H Q => σ[i]? = some (some (.ref f)) ∧ spL H Q (E σ)) := by
  constructor
  rintro pins s σ H Q I ⟨hs, prom⟩
  refine wpAny_Call_Name_kw (thn ((pe_var (pos := p1) (i := i) hN hv hd hcd).run pins s σ H (fun v H1 => v = .ref f ∧ H1 = H) I ⟨.ref f, hs, rfl, rfl⟩) ?_)
  rintro u s1 ⟨v, H1, I1, r1, rfl, rfl⟩
  obtain rfl : u = Value.ref f := r1
  obtain ⟨at_f, runs⟩ := lam_inner hex I1 l X.A X.stack s1 H1 Q (E σ) room I1.env0 Un.refl prom
  refine PySem.W.callWith_F0 at_f (wpAny_call (codeAny_mono runs ?_))
  rintro (er | _ | _ | _ | w) s' out
  all_goals first
    | exact hx σ pins H1 s1 _ s' I1 out
    | exact I1.after out
    | exact False.elim out
/-- a def whose first argument is such a lambda -/
structure FnL (P : Program) (w : World) (K : PySem.W.Frag) (mg : Str → Option Value) (base : Heap) (CX CXL : CXT) (k j : Nat) (f : Addr) (fd : FuncData) (ps : List Str) (SP : (Hp → VK → XK → Prop) → Sp) : Prop where
  many : ∀ spL vs H Q E, SP spL vs H Q E → vs.length + 1 = ps.length
  runs : ∀ (A : Around) (outer : List Env) (s : Shared) (H : Hp) (args : Args) (us : List Value) (vs : List V) (fl : Addr) (spL : Hp → VK → XK → Prop) (Q : VK) (E : XK), Room k A → Env0 P w K mg base A outer s H → BindsTo s fd args (ps.zip (.ref fl :: us)) → Vals vs us →
    LamOk P w K mg base CXL j (frs outer) s H fl spL → SP spL vs H Q E → codeAny (model P w) A (.call (.ref f) args) (CR CX outer P w H s Q E) s
theorem fn_ofL {CXL : CXT} {P : Program} {w : World} {K : PySem.W.Frag} {mg : Str → Option Value} {base : Heap} {k j : Nat} {f : Addr} {name qual : Str} {params : Arguments} {body : List Stmt} {scope : Scope} {dV kV doc pm cdv ct oc : Value} {an od : Option Addr}
    {osl : Array (Option Value)} {N ps : List Str} {SP : (Hp → VK → XK → Prop) → Sp} (lk : K.lookup f = some ⟨oc, od, .func (PySem.W.fnOf name qual params body scope dV kV doc pm an cdv ct), osl⟩) (cd : PySem.W.codeIn K cdv qual = true) (S : FnScope N ps scope)
    (many : ∀ spL vs H Q E, SP spL vs H Q E → vs.length + 1 = ps.length)
    (inside : ∀ (A : Around) (outer : List Env) (s : Shared) (H : Hp) (vs : List V) (fl : Addr) (spL : Hp → VK → XK → Prop) (Q : VK) (E : XK), Room k (A.deeper (envOfC qual scope s.heap.objs.size f cdv)) → LamOk P w K mg base CXL j (frs outer) s H fl spL → SP spL vs H Q E →
      ∃ t, PSs (cxOf CX P w K mg base N qual scope f cdv A outer s H E) body t ∧ t { nx := fun _ H' => Q .non H', rt := Q } (L2.start N (.ref fl :: vs)) H) :
    FnL P w K mg base CX CXL (k + 1) j f (PySem.W.fnOf name qual params body scope dV kV doc pm an cdv ct) ps SP := by
  refine ⟨many, fun A outer s H args us vs fl spL Q E room e0 hb r l prom => ?_⟩
  exact run_ofS (us := .ref fl :: us) (vs := .ref fl :: vs) lk cd S room e0 hb (.cons rfl r) (by rw [List.length_cons]; exact many _ _ _ _ _ prom) fun room' => inside A outer s H vs fl spL Q E room' l prom
theorem run_fnL {CXL : CXT} {k j : Nat} {f fl : Addr} {fd : FuncData} {ps : List Str} {SP : (Hp → VK → XK → Prop) → Sp} {pins : List (Addr × Obj)} {σ : L2.St} {H : Hp} {s : Shared} {Q : VK} {E : XK} {us : List Value} {vs : List V} {spL : Hp → VK → XK → Prop}
    (F : FnL X.prog X.w X.K X.mg X.base CX CXL k j f fd ps SP) (room : Room k X.A) (hb : Binds X.K fd ps []) (hx : PassesAt CX X σ E) (I : L2.Inv X pins σ H s) (r : Vals vs us) (l : LamOk X.prog X.w X.K X.mg X.base CXL j (frs X.stack) s H fl spL) (h : SP spL vs H Q E) :
    wpAny (model X.prog X.w) X.A (call (.ref f) (.ref fl :: us)) (EP X pins σ Q) X.xe s := by
  have bound := hb s (.ref fl :: us) I.kIn (by rw [List.append_nil, List.length_cons, ← r.length]; exact F.many _ _ _ _ _ h)
  rw [List.append_nil] at bound
  refine wpAny_call (codeAny_mono (F.runs X.A X.stack s H ⟨.ref fl :: us, []⟩ us vs fl spL Q E room I.env0 bound r l h) ?_)
  rintro (er | _ | _ | _ | w) s' out
  all_goals first
    | exact hx pins H s _ s' I out
    | exact I.after out
    | exact False.elim out
/-- x(a, ..), a the local that bears the lambda -/
theorem pe_passL {CXL : CXT} {k j i : Nat} {f fl : Addr} {fd : FuncData} {ps : List Str} {SP : (Hp → VK → XK → Prop) → Sp} {spL : Hp → VK → XK → Prop} {E : L2.St → XK} {x a : Str} {es : List Expr} {t : TA} {q p1 pos : Pos}
    (F : FnL X.prog X.w X.K X.mg X.base CX CXL k j f fd ps SP) (hex : X.ex = []) (l : LamOk X.prog X.w X.K X.mg X.base CXL j X.fs X.s_0 X.H_0 fl spL) (room : Room k X.A) (hg : Gl X x) (hm : X.mg x = some (.ref f)) (hk : PySem.W.keepIn X.K (.ref f) = true) (hb : Binds X.K fd ps []) (hx : ∀ σ, PassesAt CX X σ (E σ))
    (hN : X.N[i]? = some a) (hv : Vis X.env.scope a) (ha : PA X es t) (hd : (a == ("__debug__" : Str)) = false := by decide) (hcd : (a == ("__classdict__" : Str)) = false := by decide) (hdb : (x == ("__debug__" : Str)) = false := by decide)
    (he : starEach (.Name a p1 :: es) X.env = (false, eval (.Name a p1) X.env) :: starEach es X.env := by rfl) (hpl : (backTo pos (starEach es X.env)).any (·.1) = false := by rfl) :
    PE X (.Call (.Name x q) (.Name a p1 :: es) [] pos) (fun σ H Q => σ[i]? = some (some (.ref fl)) ∧ t σ H fun vs H1 => SP spL vs H1 Q (E σ)) := by
  constructor
  rintro pins s σ H Q I ⟨hs, h⟩
  refine wpAny_Call_Name_kw (ld_glob I hg hm ?_ hdb)
  refine PySem.W.callWith_K (h₀ := X.base) I.ok.mod.kin hk ?_ he hpl
  refine Calls.spliced_cons (thn ((pe_var (pos := p1) (i := i) hN hv hd hcd).run pins s σ H (fun v H1 => v = .ref fl ∧ H1 = H) I ⟨.ref fl, hs, rfl, rfl⟩) ?_)
  rintro u s1 ⟨v, H1, I1, r1, rfl, rfl⟩
  obtain rfl : u = Value.ref fl := r1
  refine thn (ha.run pos pins s1 σ H1 _ I1 h) ?_
  rintro us s2 ⟨vs, H2, I2, r, prom⟩
  exact ⟨I2.kIn, run_fnL F room hb (hx σ) I2 r (lam_inner hex I2 l) prom⟩
/-- the reading of x(lambda: body, ..) -/
def tLamN (T : List (Addr × Str)) (q : Str) (SP : (Hp → VK → XK → Prop) → Sp) (E : L2.St → XK) (tb : XK → TE) (t : TA) : TE := fun σ H Q => Tabs T H ∧ ∀ H1 c', ExtN H H1 → Tabs T H1 → H1 c' = some (CodeO c' q) →
  t σ H1 fun vs H2 => SP (fun H' Q' E' => H' c' = some (CodeO c' q) ∧ tb E' σ H' Q') vs H2 Q (E σ)
theorem pe_lamN {CXL : CXT} {T : List (Addr × Str)} {SP : (Hp → VK → XK → Prop) → Sp} {E : L2.St → XK} {x : Str} {g c P : Addr} {k j : Nat} {fd : FuncData} {ps : List Str} {params : Arguments} {body : Expr} {scope : Scope} {tb : XK → TE} {es : List Expr} {t : TA} {p lpos pos : Pos}
    (F : FnL X.prog X.w X.K X.mg X.base CX CXL k (j + 1) g fd ps SP) (room : Room k X.A) (hg : Gl X x) (hm : X.mg x = some (.ref g)) (hk : PySem.W.keepIn X.K (.ref g) = true) (hb : Binds X.K fd ps []) (hx : ∀ σ, PassesAt CX X σ (E σ))
    (TB : TabB X.base X.mg c P) (hcode : X.env.code = .ref c) (hmT : (P, X.env.qual ++ "<lambda>") ∈ T) (hu : ∀ p ∈ T, p.1 = P → p.2 = X.env.qual ++ "<lambda>") (L : LamS X.env.scope scope) (hdef : defaultsOf params X.env = ([], []))
    (hbind : ∀ (q : Str) (cl : List (Str × Addr)) (pm cv ctv : Value), bindArgs (PySem.W.kla_fn "<lambda>" q params body scope cl pm cv ctv) ⟨[], []⟩ = pure [])
    (hbody : ∀ (A : Around) (outer : List Env) (s : Shared) (H : Hp) (E : XK) (f c' : Addr), Room j (A.deeper (lamEnv X scope s.heap.objs.size f c')) → PE (lamCxN CXL X A outer s H E scope f c') body (tb E)) (ha : PA X es t)
    (hdb : (x == ("__debug__" : Str)) = false := by decide) (he : starEach (.Lambda params body scope lpos :: es) X.env = (false, eval (.Lambda params body scope lpos) X.env) :: starEach es X.env := by rfl) (hpl : (backTo pos (starEach es X.env)).any (·.1) = false := by rfl) :
    PE X (.Call (.Name x p) (.Lambda params body scope lpos :: es) [] pos) (tLamN T (X.env.qual ++ "<lambda>") SP E tb t) := by
  constructor
  rintro pins s σ H Q I ⟨hT, h⟩
  refine wpAny_Call_Name_kw (ld_glob I hg hm ?_ hdb)
  refine PySem.W.callWith_K (h₀ := X.base) I.ok.mod.kin hk ?_ he hpl
  refine Calls.spliced_cons (lam_make2 I TB hcode hmT hu hT hdef (L.has I.ok) fun f c' pm' ctv H1 s' I1 eN T1 hf hfn hfr hco => ?_)
  have I2 : L2.Inv X (pins ++ [(f, PySem.W.kla_obj "<lambda>" (X.env.qual ++ "<lambda>") params body scope (cloFrom X.env.cells scope.names []) pm' c' ctv)]) σ H1 s' := I1.pins_of fun p hp => by
    rcases List.mem_append.mp hp with z | z
    · exact I1.pin p (List.mem_append_right _ z)
    · obtain rfl := List.mem_singleton.mp z
      refine ⟨hf, hfn, fun y => ?_, fun y => hfr ?_, fun v y => by cases y⟩
      · obtain ⟨m, ⟨o', es', ep, ho', hd', _⟩, _⟩ := I1.loc
        have y : f = X.env.locals := y
        rw [← y, hf] at ho'
        cases ho'
        cases hd'
      · rcases I1.ok.stk with q | ⟨q, _⟩
        · rw [q]; exact y
        · rw [q]
          have : ∀ (e : Env) (l : List Env), f ∈ frs l → f ∈ frs (e :: l) := fun e l m => by
            obtain ⟨e', he', q'⟩ := List.mem_filterMap.mp m
            exact List.mem_filterMap.mpr ⟨e', List.mem_cons_of_mem _ he', q'⟩
          exact this _ _ y
  refine thn (ha.run pos _ s' σ H1 _ I2 (h H1 c' eN T1 hco)) ?_
  rintro us s2 ⟨vs, H2, I3, r, prom⟩
  refine ⟨I3.kIn, ?_⟩
  obtain ⟨f1, f2, _⟩ := I3.pin _ (List.mem_append_right _ (List.mem_append_right _ (List.mem_singleton.mpr rfl)))
  have l := lam_ok (CX := CXL) I3 L f1 f2 hfr (hbind _ _ _ _ _) fun A outer s H E room' => hbody A outer s H E f c' room'
  refine thn (run_fnL F room hb (hx σ) I3 r l prom) ?_
  rintro v s3 ⟨y, H3, I4, rv, q⟩
  exact ⟨y, H3, I4.unpinned, rv, q⟩
end
end Lay

set_option Elab.async false
set_option linter.all false
set_option maxRecDepth 100000
set_option maxHeartbeats 4000000
/-! LayH: an own exception with an own __init__ is made where nothing is handled; its context is known to be None -/
namespace Lay
open PySem PySem.Spec PyProof.Rows L2
section
variable {X : Cx}
theorem pmk_oexN {CX : CXT} {x : Str} {C fI : Addr} {k : Nat} {fd : FuncData} {ps : List Str} {sp : Sp} {e : Expr} {es : List Expr} {ta : TA} {p pos : Pos} (T : OexC X.K C) (iC : PySem.W.findIn X.K (.ref C) "__init__" = some (some (.ref fI)))
    (tI : PySem.W.typeIn X.K (.ref fI) = some (.type "function")) (F1 : FnOk X.prog X.w X.K X.mg X.base CX k fI fd ps sp) (room : Room (k + 1) X.A) (hb : Binds X.K fd ps []) (hx : Passes CX X (fun _ _ _ => False)) (hg : Gl X x) (hm : X.mg x = some (.ref C)) (ha : PA X (e :: es) ta)
    (hdb : (x == ("__debug__" : Str)) = false := by decide) (he : starEach (e :: es) X.env = (false, eval e X.env) :: starEach es X.env := by rfl) (hpl : (backTo pos (starEach es X.env)).any (·.1) = false := by rfl) :
    L2N.PMk X (.Call (.Name x p) (e :: es) [] pos) (tMkO C sp [] ta) := by
  intro pins s σ H Q I h
  obtain ⟨nm, q, N, bs, bm, sn, sub, ab, col, dd, k0, k1, k2, k3, k5, hC, hbm⟩ := T.cls
  refine wpAny_Call_Name_kw (ld_glob I hg hm ?_ hdb)
  refine PySem.W.callWith_K (h₀ := X.base) I.ok.mod.kin T.kC (thn (ha.run pos pins s σ H _ I h) ?_) he hpl
  rintro us ⟨hp, g, dr, tk, os⟩ ⟨vs, H1, I1, r1, few, wish⟩
  refine ⟨I1.kIn, ?_⟩
  show wpAny _ _ (call (.ref C) us) _ _ _
  -- the new object stands behind the tuple of its arguments
  generalize ea : hp.objs.size + 1 = a at *
  have up : hp.objs.size ≤ a := by rw [← ea]; exact Nat.le_succ _
  have prom := wish a (I1.hok.fresh up)
  rw [List.append_nil] at prom
  have grow : ∀ b o, hp.get? b = some o → ((hp.push (PySem.W.kdv_tup us)).push (PySem.HandSPX.excO C hp.objs.size)).get? b = some o := fun b o z => Heap.get?_push_of_some _ (Heap.get?_push_of_some _ z)
  have here : ((hp.push (PySem.W.kdv_tup us)).push (PySem.HandSPX.excO C hp.objs.size)).get? a = some (PySem.HandSPX.excO C hp.objs.size) := by rw [← ea]; heap_get
  have I2 := I1.laid (t' := tk) (a := a) (o := exo a C none) (h' := (hp.push (PySem.W.kdv_tup us)).push (PySem.HandSPX.excO C hp.objs.size)) grow up (exo_ok here)
  have r2 : Vals (V.ref a :: vs) (Value.ref a :: us) := .cons rfl r1
  have number : (Value.ref a :: us ++ []).length = ps.length := by rw [List.append_nil, ← r2.length]; exact F1.len _ _ _ _ prom
  have bound := hb ⟨(hp.push (PySem.W.kdv_tup us)).push (PySem.HandSPX.excO C hp.objs.size), g, dr, tk, os⟩ (Value.ref a :: us) I2.kIn number
  rw [List.append_nil] at bound
  have short : us.length ≤ sizeLine := by rw [← Paired.length r1, sizeLine_eq]; omega
  subst ea
  refine wpAny_call (PySem.HandSPX.call_own F.excBase_ValueError (fun Y => PySem.HandSPX.refsVE_contains Y bm hbm) (I1.kIn _ _ hC) (PySem.W.looks_findIn I1.kIn iC) (fun self => PySem.W.bind_fn I1.kIn self tI) short
    (codeAny_mono (F1.run _ X.stack _ _ ⟨Value.ref (hp.objs.size + 1) :: us, []⟩ (Value.ref (hp.objs.size + 1) :: us) _ _ (fun _ _ _ => False) (room.make C us []) (I2.env0.make C us []) bound r2 prom) ?_))
  rintro (er | _ | _ | _ | u) s' out
  case error => exact hx pins σ _ _ er s' I2 out
  case ok.ret =>
    obtain ⟨v, H2, os2, bare2, un2, hok2, rv, rfl, d, fs, ea, ed, hd1, q2⟩ := out
    obtain ⟨h2, g2, d2, t2, os'⟩ := s'
    obtain ⟨t0, G, J, sub2, gone, obj, free⟩ := mk_end0 (d2 := d2) (t2 := t2) I1 up grow un2 hok2 os2 bare2 ea ed hd1
    refine ⟨rv, hp.objs.size + 1, _, _, ⟨G, g2, d2, t2, os'⟩, _, .ref C, some d, rfl, J, sub2, gone, obj, ⟨rfl, rfl, fun vs hv => ?_⟩, rfl, rfl, free, rfl, bare2, raises_own T.exC T.tyC, q2⟩
    cases hv
    rfl
  all_goals exact False.elim out
end
end Lay

set_option Elab.async false
set_option linter.all false
set_option maxRecDepth 100000
set_option maxHeartbeats 4000000
/-! LayI: words for the walks -/
namespace Lay
open PySem PySem.Spec PyProof.Rows L2
open C8 (Cal)
theorem pown {M : Model} {A : Around} {env : Env} : PassesOwn M A env (fun _ _ => False) := PassesOwn.never
/-- a def that raises nothing, by its body -/
theorem calD {P : Program} {w : World} {K : PySem.W.Frag} {mg : Str → Option Value} {base : Heap} {x : Str} {params : Arguments} {body : List Stmt} {scope : Scope} {f : Addr} {fd : FuncData} {N ps : List Str} {k : Nat} {sp : Sp}
    (F : FunD K x x params body scope [] [] f fd) (g : mg x = some (.ref f)) (S : FnScope N ps scope)
    (b : ∀ (kV doc pm : Value) (an : Option Addr) (cdv ct : Value) (us : List Value), us.length = ps.length → bindArgs (PySem.W.fnOf x x params body scope .none kV doc pm an cdv ct) ⟨us, []⟩ = pure (ps.zip us)) (len : ∀ vs H Q E, sp vs H Q E → vs.length = ps.length)
    (inside : ∀ (cdv : Value) (A : Around) (outer : List Env) (s : Shared) (H : Hp) (vs : List V) (Q : VK) (E : XK), Room k (A.deeper (envOfC x scope s.heap.objs.size f cdv)) → sp vs H Q E →
      ∃ t, PSs (cxOf C8.CX0 P w K mg base N x scope f cdv A outer s H E).nox body t ∧ t { nx := fun _ H' => Q .non H', rt := Q } (L2.start N vs) H) : Cal P w K mg base (k + 1) x sp [] := by
  refine ⟨f, fd, ps, [], F.ok S len fun cdv A outer s H vs Q E room prom => ?_, g, F.kp, F.bindsN b, .nil⟩
  obtain ⟨t, walk, q⟩ := inside cdv A outer s H vs Q E room prom
  exact ⟨t, walk.nox, q⟩
/-! isinstance with a built-in class -/
def kinds : List String := ["int", "bool", "str", "NoneType", "list", "tuple", "dict"]
def isaB (t T : String) : Bool := t == T || (t == "bool" && T == "int")
theorem kit_kinds : ∀ t ∈ kinds, ∀ T ∈ kinds, kitB t T = some (isaB t T) := by decide +kernel
/-- x is of the kind t -/
def Kd (K : PySem.W.Frag) (H : Hp) (x : V) (t : String) : Prop := t ∈ kinds ∧ TyX K H x (.type t)
def rIsB (K : PySem.W.Frag) : List V → Hp → VK → Prop := fun xs H Q => ∃ x T, xs = [x, .ty T] ∧ T ∈ kinds ∧ ∃ t, Kd K H x t ∧ Q (.bl (isaB t T)) H
theorem call_isB {X : Cx} : CallR X (.builtin "isinstance") (rIsB X.K) := by
  rintro pins s σ H xs us Q I r ⟨x, T, rfl, hT, t, ⟨ht, ty⟩, q⟩
  exact call_isi pins s σ H _ us Q I r ⟨x, .ty T, .type t, .type T, isaB t T, rfl, .ty T, ty, kit_ty (kit_kinds t ht T hT), q⟩
theorem rIsB_iff {K : PySem.W.Frag} {x : V} {T : String} {H : Hp} {Q : VK} (hT : T ∈ kinds) : rIsB K [x, .ty T] H Q ↔ ∃ t, Kd K H x t ∧ Q (.bl (isaB t T)) H := by
  constructor
  · rintro ⟨_, _, e, _, h⟩
    cases e
    exact h
  · rintro h
    exact ⟨_, _, rfl, hT, h⟩
theorem rIsB_i {K : PySem.W.Frag} {x : V} {T : String} {H : Hp} {Q : VK} {t : String} (k : Kd K H x t) (h : Q (.bl (isaB t T)) H) (hT : T ∈ kinds := by decide) : rIsB K [x, .ty T] H Q := ⟨_, _, rfl, hT, t, k, h⟩
end Lay

set_option Elab.async false
set_option linter.all false
set_option maxRecDepth 100000
set_option maxHeartbeats 4000000
/-! LayJ: small facts of texts and lists, for the readings -/
namespace Lay
open PySem PySem.Spec PyProof.Rows L2
open SX (S S_len S_cat S_tl S_inj)
theorem at_zero {α : Type} {c : α} {r : List α} : atI (c :: r) 0 = some c := by simp [atI, ixN]
theorem at_nat {α : Type} {xs : List α} {i : Nat} {x : α} (h : xs[i]? = some x) : atI xs (i : Int) = some x := by
  have lt : i < xs.length := (List.getElem?_eq_some_iff.mp h).1
  have e : ixN xs.length (i : Int) = some i := by
    unfold ixN
    rw [if_pos (by omega), if_pos (by omega)]
    simp
  unfold atI
  rw [e]
  exact h
theorem ixn {n i : Nat} (h : i < n) : ixN n (i : Int) = some i := by
  unfold ixN
  rw [if_pos (by omega), if_pos (by omega)]
  simp
theorem str_is {a b : List Nat} {z : Str} (h : z = S b) : (V.str (S a) = V.str z) = (a = b) := by
  subst h
  apply propext
  constructor
  · intro e
    exact S_inj (V.str.inj e)
  · intro e
    rw [e]
theorem len_S {K : PySem.W.Frag} {a : List Nat} {H : Hp} (h : a.length ≤ sizeLine) : LenV K (V.str (S a)) H a.length := ⟨by rw [S_len]; exact h, by rw [S_len]⟩
theorem small {n : Nat} (h : n ≤ 16777216) : n ≤ sizeLine := by rw [sizeLine_eq]; exact h
theorem same_new {H : Hp} {p : Addr} {o : HO} (h : H p = none) : Same H (upd H p o) := fun b x e => by
  rw [upd_ne (ne_of_none e h)]
  exact e
theorem Kd.same {K : PySem.W.Frag} {H H' : Hp} {x : V} {t : String} (k : Kd K H x t) (e : Same H H') : Kd K H' x t := by
  refine ⟨k.1, ?_⟩
  cases k.2 with
  | base h =>
    cases h with
    | non => exact .base .non
    | bl y => exact .base (.bl y)
    | int i => exact .base (.int i)
    | str y => exact .base (.str y)
    | flt y => exact .base (.flt y)
    | lst h => exact .base (.lst (e _ _ h))
    | frz h => exact .base (.frz (e _ _ h))
    | tup h => exact .base (.tup (e _ _ h))
    | dK h => exact .base (.dK (e _ _ h))
    | dT h => exact .base (.dT (e _ _ h))
  | byt y => exact .byt y
  | set h => exact .set (e _ _ h)
  | kList h c => exact .kList h c
  | kTuple h c => exact .kTuple h c
  | kDict h c => exact .kDict h c
  | fTuple h => exact .fTuple (e _ _ h)
  | fDict h => exact .fDict (e _ _ h)
theorem kd_int {K : PySem.W.Frag} {H : Hp} {i : Int} : Kd K H (.int i) "int" := ⟨by decide, .base (.int i)⟩
theorem kd_bl {K : PySem.W.Frag} {H : Hp} {b : Bool} : Kd K H (.bl b) "bool" := ⟨by decide, .base (.bl b)⟩
theorem kd_str {K : PySem.W.Frag} {H : Hp} {b : Str} : Kd K H (.str b) "str" := ⟨by decide, .base (.str b)⟩
theorem kd_non {K : PySem.W.Frag} {H : Hp} : Kd K H .non "NoneType" := ⟨by decide, .base .non⟩
theorem kd_lst {K : PySem.W.Frag} {H : Hp} {a : Addr} {xs : List V} (h : H a = some (.lst xs)) : Kd K H (.ref a) "list" := ⟨by decide, .base (.lst h)⟩
theorem kd_tup {K : PySem.W.Frag} {H : Hp} {a : Addr} {xs : List V} (h : H a = some (.tup xs)) : Kd K H (.ref a) "tuple" := ⟨by decide, .base (.tup h)⟩
theorem kd_dK {K : PySem.W.Frag} {H : Hp} {a : Addr} {xs : List (Key × V)} (h : H a = some (.dK xs)) : Kd K H (.ref a) "dict" := ⟨by decide, .base (.dK h)⟩
theorem sqT_of {K : PySem.W.Frag} {H : Hp} {t : Addr} {xs : List V} (h : H t = some (.tup xs)) : SqT K H t xs := .inl (.inl h)
theorem ixT {K : PySem.W.Frag} {H : Hp} {t : Addr} {xs : List V} {v : V} {R : VK} (h : H t = some (.tup xs)) (i : Nat) (e : xs[i]? = some v) (k : R v H) : rIxT K (V.ref t) (V.int (i : Int)) H R := ⟨t, xs, (i : Int), v, rfl, rfl, sqT_of h, at_nat e, k⟩
theorem ixL {K : PySem.W.Frag} {H : Hp} {t : Addr} {xs : List V} {v : V} {R : VK} (h : SqL K H t xs) (i : Nat) (e : xs[i]? = some v) (k : R v H) : rIxL K (V.ref t) (V.int (i : Int)) H R := ⟨t, xs, (i : Int), v, rfl, rfl, h, at_nat e, k⟩
theorem setL {H : Hp} {t : Addr} {xs : List V} {v : V} {R : Hp → Prop} (h : H t = some (.lst xs)) (i : Nat) (e : i < xs.length) (k : R (upd H t (.lst (xs.set i v)))) : rSetL (V.ref t) (V.int (i : Int)) v H R := ⟨t, xs, (i : Int), i, rfl, rfl, h, ixn e, k⟩
theorem len_T {K : PySem.W.Frag} {H : Hp} {t : Addr} {xs : List V} (h : H t = some (.tup xs)) : LenV K (V.ref t) H xs.length := .inr ⟨xs, sqT_of h, rfl⟩
theorem len_L {K : PySem.W.Frag} {H : Hp} {t : Addr} {xs : List V} (h : SqL K H t xs) : LenV K (V.ref t) H xs.length := .inl ⟨xs, h, rfl⟩
/-- an expression's reading, its value told first -/
theorem at_te {t : TE} {σ : L2.St} {H : Hp} {R : VK} (x : V) (h : ∀ R' : VK, (∀ H', Same H H' → R' x H') → t σ H R') (k : ∀ H', Same H H' → R x H') : t σ H R := h R k
theorem at_te0 {t : TE} {σ : L2.St} {H : Hp} {R : VK} (x : V) (h : ∀ R' : VK, R' x H → t σ H R') (k : R x H) : t σ H R := h R k
theorem at_tt {t : TT} {σ : L2.St} {H : Hp} {R : Bool → Hp → Prop} (b : Bool) (h : ∀ R' : Bool → Hp → Prop, (∀ H', Same H H' → R' b H') → t σ H R') (k : ∀ H', Same H H' → R b H') : t σ H R := h R k
theorem at_tt0 {t : TT} {σ : L2.St} {H : Hp} {R : Bool → Hp → Prop} (b : Bool) (h : ∀ R' : Bool → Hp → Prop, R' b H → t σ H R') (k : R b H) : t σ H R := h R k
theorem at_ta0 {t : TA} {σ : L2.St} {H : Hp} {R : List V → Hp → Prop} (xs : List V) (h : ∀ R' : List V → Hp → Prop, R' xs H → t σ H R') (k : R xs H) : t σ H R := h R k
end Lay

set_option Elab.async false
set_option linter.all false
set_option maxRecDepth 100000
set_option maxHeartbeats 4000000
/-! LayK: loops, told whole -/
namespace Lay
open PySem PySem.Spec PyProof.Rows L2
section
variable {K : PySem.W.Frag} {g : TG} {tb : TS} {D : Ends} {σ : L2.St} {H : Hp}
/-- what a walk over the list at l is to keep -/
def LoopL (K : PySem.W.Frag) (g : TG) (tb : TS) (D : Ends) (σ : L2.St) (H : Hp) (l : Addr) (xs : List V) : Prop := ∃ Pv : Nat → L2.St → Hp → Prop, Pv 0 σ H ∧ (∀ i σ' H', i ≤ xs.length → Pv i σ' H' → SqL K H' l xs) ∧
  (∀ i x σ' H', xs[i]? = some x → Pv i σ' H' → g x σ' H' fun σ2 H2 => tb { D with nx := Pv (i + 1), ct := Pv (i + 1), bk := D.nx } σ2 H2) ∧ ∀ σ' H', Pv xs.length σ' H' → D.nx σ' H'
theorem LoopL.run {l : Addr} {xs : List V} (h : LoopL K g tb D σ H l xs) : ∃ W : Nat → Nat → L2.St → Hp → Prop, (∃ m, W 0 m σ H) ∧ ∀ i m σ H, W i m σ H →
    ((Itl K l).stop i H ∧ D.nx σ H) ∨ ((Itl K l).go i H ∧ ∃ N : L2.St → Hp → Prop, (∀ σ' H', N σ' H' → ∃ m', m' < m ∧ W (i + 1) m' σ' H') ∧ ∀ x H', (Itl K l).yld i H x H' → g x σ H' fun σ2 H2 => tb { D with nx := N, ct := N, bk := D.nx } σ2 H2) := by
  obtain ⟨Pv, h0, hl, hs, hd⟩ := h
  exact for_list Pv h0 hl hs hd
/-- for x in [..] -/
theorem for_list_new {args : TA} (xs : List V) (hx : xs.length ≤ sizeLine) (h : ∀ R : List V → Hp → Prop, R xs H → args σ H R) (k : ∀ l, H l = none → LoopL K g tb D σ (upd H l (.lst xs)) l xs) : tFor (iList K (tLst args)) g tb D σ H :=
  h _ ⟨hx, fun l hl => ⟨l, rfl, ⟨xs, SqL.of upd_same⟩, (k l hl).run⟩⟩
/-- for x in a list that stands -/
theorem for_list_at {tl : TE} {l : Addr} {xs : List V} (h : ∀ R : VK, R (.ref l) H → tl σ H R) (hl : SqL K H l xs) (k : LoopL K g tb D σ H l xs) : tFor (iList K tl) g tb D σ H := h _ ⟨l, rfl, ⟨xs, hl⟩, k.run⟩
/-- for x in a list that is made on the way -/
theorem for_list_made {tl : TE} {o : Hp → Addr → Hp} {xs : List V} (h : ∀ R : VK, (∀ l, H l = none → R (.ref l) (upd H l (.lst xs))) → tl σ H R) (k : ∀ l, H l = none → LoopL K g tb D σ (upd H l (.lst xs)) l xs) : tFor (iList K tl) g tb D σ H :=
  h _ fun l hl => ⟨l, rfl, ⟨xs, SqL.of upd_same⟩, (k l hl).run⟩
/-- for k in range(n) -/
def LoopR (g : TG) (tb : TS) (D : Ends) (σ : L2.St) (H : Hp) (n : Nat) : Prop := ∃ Pv : Nat → L2.St → Hp → Prop, Pv 0 σ H ∧
  (∀ i σ' H', i < n → Pv i σ' H' → g (.int (i : Int)) σ' H' fun σ2 H2 => tb { D with nx := Pv (i + 1), ct := Pv (i + 1), bk := D.nx } σ2 H2) ∧ ∀ σ' H', Pv n σ' H' → D.nx σ' H'
theorem for_range_at {ta : TA} {n : Nat} {H1 : Hp} (hn : n < 2 ^ 62) (h : ∀ R : List V → Hp → Prop, R [.int (n : Int)] H1 → ta σ H R) (k : LoopR g tb D σ H1 n) : tFor (iRng1 ta) g tb D σ H := by
  obtain ⟨Pv, h0, hs, hd⟩ := k
  refine h _ ⟨(n : Int), rfl, by omega, by omega, ?_⟩
  rw [Int.toNat_natCast]
  exact for_range (lo := 0) Pv h0 (fun i σ' H' hi hP => by rw [Int.zero_add]; exact hs i σ' H' hi hP) hd
/-- for c in a text -/
def LoopS (g : TG) (tb : TS) (D : Ends) (σ : L2.St) (H : Hp) (a : List Nat) : Prop := ∃ Pv : Nat → L2.St → Hp → Prop, Pv 0 σ H ∧
  (∀ i c σ' H', a[i]? = some c → Pv i σ' H' → g (.str (SX.S [c])) σ' H' fun σ2 H2 => tb { D with nx := Pv (i + 1), ct := Pv (i + 1), bk := D.nx } σ2 H2) ∧ ∀ σ' H', Pv a.length σ' H' → D.nx σ' H'
theorem for_str_at {te : TE} {a : List Nat} {H1 : Hp} (h : ∀ R : VK, R (.str (SX.S a)) H1 → te σ H R) (k : LoopS g tb D σ H1 a) : tFor (iStr te) g tb D σ H := by
  obtain ⟨Pv, h0, hs, hd⟩ := k
  refine h _ ⟨SX.S a, rfl, for_it walk_str Pv h0 (fun _ _ _ _ _ => trivial) ?_ ?_⟩
  · rintro i x σ' H' H2 hi hP ⟨rfl, c, hc, rfl⟩
    exact hs i c σ' H2 (by simpa using hc) hP
  · intro σ' H' hP
    exact hd σ' H' (by simpa using hP)
end
section
variable {g : TG} {tb : TS} {D : Ends} {σ : L2.St} {H : Hp}
/-- for k in a dict that is locked -/
def LoopK (g : TG) (tb : TS) (D : Ends) (σ : L2.St) (H : Hp) (d : Addr) (o : Obj) (kvs : List (Key × V)) : Prop := ∃ Pv : Nat → L2.St → Hp → Prop, Pv 0 σ H ∧ (∀ i σ' H', i ≤ kvs.length → Pv i σ' H' → H' d = some (.frz o (.dK kvs))) ∧
  (∀ i k v σ' H', kvs[i]? = some (k, v) → Pv i σ' H' → g (kV k) σ' H' fun σ2 H2 => tb { D with nx := Pv (i + 1), ct := Pv (i + 1), bk := D.nx } σ2 H2) ∧ ∀ σ' H', Pv kvs.length σ' H' → D.nx σ' H'
theorem for_keys_at {td : TE} {d : Addr} {o : Obj} {kvs : List (Key × V)} (h : ∀ R : VK, R (.ref d) H → td σ H R) (hd : H d = some (.frz o (.dK kvs))) (k : LoopK g tb D σ H d o kvs) : tFor (iKeys td) g tb D σ H := by
  obtain ⟨Pv, h0, hl, hs, hn⟩ := k
  refine h _ ⟨d, o, rfl, .inl ⟨kvs, hd, for_it walk_keys Pv h0 hl ?_ hn⟩⟩
  rintro i x σ' H' H2 hi hP ⟨rfl, k, v, hkv, rfl⟩
  exact hs i k v σ' H2 hkv hP
end
section
variable {K : PySem.W.Frag} {x : V} {t T : String} {H : Hp} {A B : Hp → Prop}
theorem isi_t (k : Kd K H x t) (h : A H) (e : isaB t T = true := by decide) (hT : T ∈ kinds := by decide) : rIsB K [x, .ty T] H (fun z H1 => ∃ c, z = V.bl c ∧ if c = true then A H1 else B H1) :=
  rIsB_i k ⟨_, rfl, by rw [if_pos e]; exact h⟩ hT
theorem isi_f (k : Kd K H x t) (h : B H) (e : isaB t T = false := by decide) (hT : T ∈ kinds := by decide) : rIsB K [x, .ty T] H (fun z H1 => ∃ c, z = V.bl c ∧ if c = true then A H1 else B H1) :=
  rIsB_i k ⟨_, rfl, by rw [if_neg (by rw [e]; decide)]; exact h⟩ hT
theorem isi_nt (k : Kd K H x t) (h : B H) (e : isaB t T = true := by decide) (hT : T ∈ kinds := by decide) : rIsB K [x, .ty T] H (fun z H1 => ∃ c, z = V.bl c ∧ if (!c) = true then A H1 else B H1) :=
  rIsB_i k ⟨_, rfl, by rw [if_neg (by rw [e]; decide)]; exact h⟩ hT
theorem isi_nf (k : Kd K H x t) (h : A H) (e : isaB t T = false := by decide) (hT : T ∈ kinds := by decide) : rIsB K [x, .ty T] H (fun z H1 => ∃ c, z = V.bl c ∧ if (!c) = true then A H1 else B H1) :=
  rIsB_i k ⟨_, rfl, by rw [if_pos (by rw [e]; decide)]; exact h⟩ hT
end
end Lay

set_option Elab.async false
set_option linter.all false
set_option maxRecDepth 100000
set_option maxHeartbeats 4000000
/-! LayL: defs that raise own errors, called by their names -/
namespace Lay
open PySem PySem.Spec PyProof.Rows L2
structure CalN (P : Program) (w : World) (K : PySem.W.Frag) (mg : Str → Option Value) (base : Heap) (k : Nat) (x : Str) (sp : Sp) : Prop where
  ex : ∃ (f : Addr) (fd : FuncData) (ps : List Str), FnOk P w K mg base (L2N.CX P w) k f fd ps sp ∧ mg x = some (.ref f) ∧ PySem.W.keepIn K (.ref f) = true ∧ Binds K fd ps []
theorem calN {P : Program} {w : World} {K : PySem.W.Frag} {mg : Str → Option Value} {base : Heap} {x : Str} {params : Arguments} {body : List Stmt} {scope : Scope} {f : Addr} {fd : FuncData} {N ps : List Str} {k : Nat} {sp : Sp}
    (F : FunD K x x params body scope [] [] f fd) (g : mg x = some (.ref f)) (S : FnScope N ps scope)
    (b : ∀ (kV doc pm : Value) (an : Option Addr) (cdv ct : Value) (us : List Value), us.length = ps.length → bindArgs (PySem.W.fnOf x x params body scope .none kV doc pm an cdv ct) ⟨us, []⟩ = pure (ps.zip us)) (len : ∀ vs H Q E, sp vs H Q E → vs.length = ps.length)
    (inside : ∀ (cdv : Value) (A : Around) (outer : List Env) (s : Shared) (H : Hp) (vs : List V) (Q : VK) (E : XK), Room k (A.deeper (envOfC x scope s.heap.objs.size f cdv)) → sp vs H Q E →
      ∃ t, PSs (cxOf (L2N.CX P w) P w K mg base N x scope f cdv A outer s H E) body t ∧ t { nx := fun _ H' => Q .non H', rt := Q } (L2.start N vs) H) : CalN P w K mg base (k + 1) x sp :=
  ⟨f, fd, ps, F.ok S len inside, g, F.kp, F.bindsN b⟩
theorem pe_cN {X : Cx} {k j : Nat} {x : Str} {sp : Sp} {p pos : Pos} {e : Expr} {es : List Expr} {t : TA} {W : WX} (c : CalN X.prog X.w X.K X.mg X.base k x sp) (hr : Room j X.A) (hk : k ≤ j) (hg : Gl X x) (tk : L2N.Takes X W) (ha : PA X (e :: es) t)
    (hdb : (x == ("__debug__" : Str)) = false := by decide) (he : starEach (e :: es) X.env = (false, eval e X.env) :: starEach es X.env := by rfl) (hpl : (backTo pos (starEach es X.env)).any (·.1) = false := by rfl) :
    PE X (.Call (.Name x p) (e :: es) [] pos) (tCallS sp (WE W) t) := by
  obtain ⟨f, fd, ps, F, hm, kp, b⟩ := c.ex
  exact pe_callS F (hr.mono hk) hg hm kp b (fun σ => L2N.passAt tk σ) ha hdb he hpl
/-- where a def with L2N's exceptions stands -/
theorem takesN {P : Program} {w : World} {K : PySem.W.Frag} {mg : Str → Option Value} {base : Heap} {N : List Str} {qual : Str} {scope : Scope} {f : Addr} {cd : Value} {A : Around} {outer : List Env} {s : Shared} {H : Hp} {E : XK} :
    L2N.Takes (cxOf (L2N.CX P w) P w K mg base N qual scope f cd A outer s H E) (fun cls d _ H => E cls d H) := L2N.takes_of rfl rfl rfl rfl
theorem takesL {P : Program} {w : World} {X : Cx} {A : Around} {outer : List Env} {s : Shared} {H : Hp} {E : XK} {scope : Scope} {f c' : Addr} (hp : X.prog = P) (hw : X.w = w) : L2N.Takes (lamCxN (L2N.CX P w) X A outer s H E scope f c') (fun cls d _ H => E cls d H) := by
  subst hp hw
  exact L2N.takes_of rfl rfl rfl rfl
/-- defs that are handed the handled exception, by their names -/
structure CalE (P : Program) (w : World) (K : PySem.W.Frag) (mg : Str → Option Value) (base : Heap) (k : Nat) (x : Str) (sp : Addr × Obj → Sp) : Prop where
  ex : ∃ (f : Addr) (fd : FuncData) (ps : List Str), FnE P w K mg base C8.CX0 k f fd ps sp ∧ mg x = some (.ref f) ∧ PySem.W.keepIn K (.ref f) = true ∧ Binds K fd ps []
theorem calE {P : Program} {w : World} {K : PySem.W.Frag} {mg : Str → Option Value} {base : Heap} {x : Str} {params : Arguments} {body : List Stmt} {scope : Scope} {f : Addr} {fd : FuncData} {N ps : List Str} {k : Nat} {sp : Addr × Obj → Sp}
    (F : FunD K x x params body scope [] [] f fd) (g : mg x = some (.ref f)) (S : FnScope N ps scope)
    (b : ∀ (kV doc pm : Value) (an : Option Addr) (cdv ct : Value) (us : List Value), us.length = ps.length → bindArgs (PySem.W.fnOf x x params body scope .none kV doc pm an cdv ct) ⟨us, []⟩ = pure (ps.zip us)) (len : ∀ p vs H Q E, sp p vs H Q E → vs.length = ps.length)
    (inside : ∀ (p : Addr × Obj) (cdv : Value) (A : Around) (outer : List Env) (s : Shared) (H : Hp) (vs : List V) (Q : VK) (E : XK), L2H.Hot1 A p → L2H.RoomH k (A.deeper (envOfC x scope s.heap.objs.size f cdv)) → sp p vs H Q E →
      ∃ t, PSs (L2H.cxH C8.CX0 P w K mg base N x scope f cdv A outer s H E p) body t ∧ t { nx := fun _ H' => Q .non H', rt := Q } (L2.start N vs) H) : CalE P w K mg base (k + 1) x sp := by
  refine ⟨f, fd, ps, ?_, g, F.kp, F.bindsN b⟩
  obtain ⟨oc, od, dV, kV, doc, pm, an, cdv, ct, osl, rfl, lk, hcd, _, _⟩ := F.ex
  exact fn_ofE lk hcd S len fun p A outer s H vs Q E hot room prom => inside p cdv A outer s H vs Q E hot room prom
theorem hasP_cx {CX : CXT} {P : Program} {w : World} {K : PySem.W.Frag} {mg : Str → Option Value} {base : Heap} {N : List Str} {qual : Str} {scope : Scope} {f : Addr} {cd : Value} {A : Around} {outer : List Env} {s : Shared} {H : Hp} {E : XK} {p : Addr × Obj} (h : L2H.Hot1 A p) :
    HasP (L2H.cxH CX P w K mg base N qual scope f cd A outer s H E p) p := ⟨⟨h.1, h.2⟩, List.mem_singleton.mpr rfl⟩
theorem pe_cE {X : Cx} {k j : Nat} {x : Str} {sp : Addr × Obj → Sp} {q pos : Pos} {e : Expr} {es : List Expr} {t : TA} {p : Addr × Obj} (c : CalE X.prog X.w X.K X.mg X.base k x sp) (hr : L2H.RoomH j X.A) (hk : k ≤ j) (hp : HasP X p) (hg : Gl X x) (ha : PA X (e :: es) t)
    (hdb : (x == ("__debug__" : Str)) = false := by decide) (he : starEach (e :: es) X.env = (false, eval e X.env) :: starEach es X.env := by rfl) (hpl : (backTo pos (starEach es X.env)).any (·.1) = false := by rfl) :
    PE X (.Call (.Name x q) (e :: es) [] pos) (tCallS (sp p) (fun _ => C8.E0) t) := by
  obtain ⟨f, fd, ps, F, hm, kp, b⟩ := c.ex
  exact pe_callE F (hr.mono hk) hp hg hm kp b (fun σ _ _ _ _ _ _ h => h.elim) ha hdb he hpl
/-- the same for a def without an exception in its hands: FnE by what it promises anywhere -/
structure CalL (P : Program) (w : World) (K : PySem.W.Frag) (mg : Str → Option Value) (base : Heap) (k j : Nat) (x : Str) (SP : (Hp → VK → XK → Prop) → Sp) : Prop where
  ex : ∃ (f : Addr) (fd : FuncData) (ps : List Str), FnL P w K mg base C8.CX0 (L2N.CX P w) k j f fd ps SP ∧ mg x = some (.ref f) ∧ PySem.W.keepIn K (.ref f) = true ∧ Binds K fd ps []
theorem calL {P : Program} {w : World} {K : PySem.W.Frag} {mg : Str → Option Value} {base : Heap} {x : Str} {params : Arguments} {body : List Stmt} {scope : Scope} {f : Addr} {fd : FuncData} {N ps : List Str} {k j : Nat} {SP : (Hp → VK → XK → Prop) → Sp}
    (F : FunD K x x params body scope [] [] f fd) (g : mg x = some (.ref f)) (S : FnScope N ps scope)
    (b : ∀ (kV doc pm : Value) (an : Option Addr) (cdv ct : Value) (us : List Value), us.length = ps.length → bindArgs (PySem.W.fnOf x x params body scope .none kV doc pm an cdv ct) ⟨us, []⟩ = pure (ps.zip us)) (len : ∀ spL vs H Q E, SP spL vs H Q E → vs.length + 1 = ps.length)
    (inside : ∀ (cdv : Value) (A : Around) (outer : List Env) (s : Shared) (H : Hp) (vs : List V) (fl : Addr) (spL : Hp → VK → XK → Prop) (Q : VK) (E : XK), Room k (A.deeper (envOfC x scope s.heap.objs.size f cdv)) → LamOk P w K mg base (L2N.CX P w) j (frs outer) s H fl spL → SP spL vs H Q E →
      ∃ t, PSs (cxOf C8.CX0 P w K mg base N x scope f cdv A outer s H E).nox body t ∧ t { nx := fun _ H' => Q .non H', rt := Q } (L2.start N (.ref fl :: vs)) H) : CalL P w K mg base (k + 1) j x SP := by
  refine ⟨f, fd, ps, ?_, g, F.kp, F.bindsN b⟩
  obtain ⟨oc, od, dV, kV, doc, pm, an, cdv, ct, osl, rfl, lk, hcd, _, _⟩ := F.ex
  refine fn_ofL lk hcd S len fun A outer s H vs fl spL Q E room l prom => ?_
  obtain ⟨t, walk, q⟩ := inside cdv A outer s H vs fl spL Q E room l prom
  exact ⟨t, walk.nox, q⟩
/-- a(), a the local that bears the lambda; its exceptions are those that are wished here -/
def tActW (i : Nat) (fl : Addr) (spL : Hp → VK → XK → Prop) (W : WX) : TE := fun σ H Q => ∃ Ech : XK, (∀ cls d H', Ech cls d H' → W cls d σ H') ∧ σ[i]? = some (some (.ref fl)) ∧ spL H Q Ech
theorem pe_actW {X : Cx} {W : WX} {j i : Nat} {a : Str} {f : Addr} {spL : Hp → VK → XK → Prop} {p1 p2 : Pos} (hex : X.ex = []) (l : LamOk X.prog X.w X.K X.mg X.base (L2N.CX X.prog X.w) j X.fs X.s_0 X.H_0 f spL) (room : Room j X.A) (tk : L2N.Takes X W)
    (hN : X.N[i]? = some a) (hv : Vis X.env.scope a) (hd : (a == ("__debug__" : Str)) = false := by decide) (hcd : (a == ("__classdict__" : Str)) = false := by decide) :
    PE X (.Call (.Name a p1) [] [] p2) (tActW i f spL W) := by
  constructor
  rintro pins s σ H Q I ⟨Ech, hW, hs, prom⟩
  refine wpAny_Call_Name_kw (thn ((pe_var (pos := p1) (i := i) hN hv hd hcd).run pins s σ H (fun v H1 => v = .ref f ∧ H1 = H) I ⟨.ref f, hs, rfl, rfl⟩) ?_)
  rintro u s1 ⟨v, H1, I1, r1, rfl, rfl⟩
  obtain rfl : u = Value.ref f := r1
  obtain ⟨at_f, runs⟩ := lam_inner hex I1 l X.A X.stack s1 H1 Q Ech room I1.env0 Un.refl prom
  refine PySem.W.callWith_F0 at_f (wpAny_call (codeAny_mono runs ?_))
  rintro (er | _ | _ | _ | w) s' out
  all_goals first
    | exact tk _ s' (L2N.XE.of_call I1 hW out)
    | exact I1.after out
    | exact False.elim out
theorem takes_no {X : Cx} : L2N.Takes X (fun _ _ _ _ => False) := fun _ _ x => by
  obtain ⟨_, _, _, _, _, _, _, _, _, _, _, _, _, _, _, _, z⟩ := x
  exact z.elim
end Lay

set_option Elab.async false
set_option linter.all false
set_option maxRecDepth 100000
set_option maxHeartbeats 4000000
/-! LayM: one sign many times; the drawing laws' bag -/
namespace Lay
open PySem PySem.Spec PyProof.Rows L2
open SX (S S_len)
theorem fold_rep (c : Nat) : ∀ (n : Nat) (acc : Array Nat), (List.replicate n (#[c] : Array Nat)).foldl (· ++ ·) acc = acc ++ (List.replicate n c).toArray
  | 0, acc => by simp
  | n + 1, acc => by
    rw [List.replicate_succ, List.foldl_cons, fold_rep c n, List.replicate_succ]
    apply Array.ext'
    simp
/-- 'x' * n -/
def rRepS : R2 := fun x y H Q => ∃ (c : Nat) (n : Nat), x = .str (S [c]) ∧ y = .int (n : Int) ∧ 2 ≤ n ∧ n ≤ 1000000 ∧ Q (.str (S (List.replicate n c))) H
theorem op_repS {X : Cx} : OpR X (binaryOp .Mult) rRepS := by
  rintro pins s σ H x y v u Q I rx ry ⟨c, n, rfl, rfl, h2, hm, q⟩
  obtain ⟨t, rfl⟩ := rx
  obtain ⟨t', rfl⟩ := ry
  have l1 : (S [c]).length = 1 := S_len _
  refine P.mul_str ?_ ?_ ?_ ?_
  · rw [decide_eq_false (show ¬ (n : Int) < -(2 ^ 63) by omega), decide_eq_false (show ¬ (n : Int) ≥ 2 ^ 63 by omega)]
    rfl
  · intro _ _ z
    rw [l1] at z
    have : (2 : Int) ^ 63 - 1 = 9223372036854775807 := by decide
    rw [this] at z
    have e : (1 : Int) ≤ 9223372036854775807 / (n : Int) := (Int.le_ediv_iff_mul_le (by omega)).mpr (by omega)
    have z : (1 : Int) > 9223372036854775807 / (n : Int) := z
    omega
  · intro _ _
    rw [l1]
    refine decide_eq_false fun z => ?_
    have : (16777216 : Nat) < 1 * ((n : Int)).toNat := by
      have := sizeLine_eq
      omega
    omega
  · rw [if_neg (by omega), if_neg (by
      rw [l1]
      have : ((n : Int) == 1) = false := by
        rw [beq_eq_false_iff_ne]
        omega
      rw [this]
      decide)]
    have e : (⟨(List.replicate ((n : Int)).toNat (S [c]).cps).foldl (· ++ ·) #[]⟩ : Str) = S (List.replicate n c) := by
      have := fold_rep c n #[]
      rw [Int.toNat_natCast]
      show (⟨_⟩ : Str) = ⟨_⟩
      congr 1
      rw [show (S [c]).cps = (#[c] : Array Nat) from rfl, this]
      simp
    rw [e]
    refine ⟨?_, ⟨.str _, H, I.tok _, ⟨_, rfl⟩, q⟩⟩
    rw [S_len, List.length_replicate, sizeLine_eq]
    omega
/-- for k in range(e), e not known beforehand -/
theorem for_range_any {g : TG} {tb : TS} {D : Ends} {σ : L2.St} {H : Hp} {ta : TA} {Pn : Nat → Hp → Prop} (h : ∀ R : List V → Hp → Prop, (∀ n H1, Pn n H1 → R [.int (n : Int)] H1) → ta σ H R) (k : ∀ n H1, Pn n H1 → n < 2 ^ 62 ∧ LoopR g tb D σ H1 n) : tFor (iRng1 ta) g tb D σ H := by
  refine h _ fun n H1 p => ?_
  obtain ⟨hn, Pv, h0, hs, hd⟩ := k n H1 p
  refine ⟨(n : Int), rfl, by omega, by omega, ?_⟩
  rw [Int.toNat_natCast]
  exact for_range (lo := 0) Pv h0 (fun i σ' H' hi hP => by rw [Int.zero_add]; exact hs i σ' H' hi hP) hd
/-! ### the bag -/
/-- the bag at b: what is drawn from, the place in it, the number that is eaten up, the mixed number, two counts -/
def Bag (H : Hp) (b : Addr) : Prop := ∃ (l : Addr) (ns : List Int) (pos : Nat) (big mixed cnt left : Int), H b = some (.lst [.ref l, .int (pos : Int), .int big, .int mixed, .int cnt, .int left]) ∧ H l = some (.lst (ns.map V.int)) ∧ l ≠ b ∧ 0 ≤ mixed ∧ mixed < 2147483549
/-- all but the bag stays -/
structure Ex (b : Addr) (H H' : Hp) : Prop where
  keep : ∀ a o, a ≠ b → H a = some o → H' a = some o
  bag : Bag H' b
theorem Ex.trans {b : Addr} {H H1 H2 : Hp} (x : Ex b H H1) (y : Ex b H1 H2) : Ex b H H2 := ⟨fun a o n e => y.keep a o n (x.keep a o n e), y.bag⟩
theorem Bag.same {b : Addr} {H H' : Hp} (g : Bag H b) (e : Same H H') : Bag H' b := by
  obtain ⟨l, ns, pos, big, mixed, cnt, left, h1, h2, h3⟩ := g
  exact ⟨l, ns, pos, big, mixed, cnt, left, e _ _ h1, e _ _ h2, h3⟩
theorem Ex.of {b : Addr} {H H' : Hp} (g : Bag H b) (e : Same H H') : Ex b H H' := ⟨fun a o _ h => e a o h, g.same e⟩
theorem Ex.more {b : Addr} {H H1 H2 : Hp} (x : Ex b H H1) (e : Same H1 H2) : Ex b H H2 := x.trans (Ex.of x.bag e)
theorem Bag.at {b : Addr} {H : Hp} (g : Bag H b) : ∃ xs, H b = some (.lst xs) ∧ xs.length = 6 := by
  obtain ⟨l, ns, pos, big, mixed, cnt, left, h1, _⟩ := g
  exact ⟨_, h1, rfl⟩
theorem Ex.free {b a : Addr} {H H' : Hp} (x : Ex b H H') (hb : ∃ o, H b = some o) (h : H' a = none) : H a = none := by
  cases e : H a with
  | none => rfl
  | some o =>
    by_cases n : a = b
    · subst n
      obtain ⟨xs, h1, _⟩ := x.bag.at
      rw [h] at h1
      cases h1
    · rw [x.keep a o n e] at h
      cases h
/-- a cut behind a statement -/
theorem seq_cut {t u : TS} {D : Ends} {σ : L2.St} {H : Hp} (Pq : L2.St → Hp → Prop) (h : ∀ D' : Ends, D'.rt = D.rt → (∀ σ' H', Pq σ' H' → D'.nx σ' H') → t D' σ H) (k : ∀ σ' H', Pq σ' H' → u D σ' H') : tSeq t u D σ H := h _ rfl k
end Lay

set_option Elab.async false
set_option linter.all false
set_option maxRecDepth 100000
set_option maxHeartbeats 4000000
/-! LayN: expressions that want a token out: calls, methods, comprehensions over them -/
namespace Lay
open PySem PySem.Spec PyProof.Rows L2
open C8 (Cal)
section
variable {X : Cx}
theorem pet_call {CX : CXT} {k : Nat} {f : Addr} {fd : FuncData} {ps : List Str} {ds : List Value} {dvs : List V} {sp : Sp} {E : XK} {x : Str} {e : Expr} {es : List Expr} {t : TA} {p pos : Pos}
    (F : FnOk X.prog X.w X.K X.mg X.base CX k f fd ps sp) (hr : Room k X.A) (hg : Gl X x) (hm : X.mg x = some (.ref f)) (hk : PySem.W.keepIn X.K (.ref f) = true) (hb : Binds X.K fd ps []) (hx : ∀ σ, PassesAt CX X σ E)
    (ha : PAT X (e :: es) t) (hdb : (x == ("__debug__" : Str)) = false := by decide) (he : starEach (e :: es) X.env = (false, eval e X.env) :: starEach es X.env := by rfl) (hpl : (backTo pos (starEach es X.env)).any (·.1) = false := by rfl) :
    PET X (.Call (.Name x p) (e :: es) [] pos) (tCallS sp (fun _ => E) t) := by
  intro pins s σ H Q h0 I h
  refine wpAny_Call_Name_kw (ld_glob I hg hm ?_ hdb)
  refine PySem.W.callWith_K (h₀ := X.base) I.ok.mod.kin hk (thn (ha pos pins s σ H _ h0 I h) fun us s1 ⟨vs, H1, I1, r, q⟩ => ⟨I1.kIn, ?_⟩) he hpl
  exact run_fnS (E := fun _ => E) F hr hb (hx σ) I1 r q
theorem pet_m1 {o e : Expr} {to te : TE} {id : String} {name : Str} {apos pos : Pos} {r : V → List V → Hp → VK → Prop} (slot : Slot "str" name id) (ty : typeOf (.builtin id) = pure (.type "method_descriptor")) (rule : MtR X id r) (ho : PET X o to) (he : PE X e te)
    (hs : starEach [e] X.env = [(false, eval e X.env)] := by rfl) (hbase : attributeBase o name X.env (eval o X.env) = eval o X.env := by rfl) (hline : (apos.endLine == pos.line) = true := by rfl) :
    PET X (.Call (.Attribute o name apos) [e] [] pos) (tM1 r to te) := by
  intro pins s σ H Q h0 I h
  refine PySem.Call_method1 hbase hs hline (thn (ho pins s σ H _ h0 I h) fun v s1 ⟨x, H1, I1, r1, q1⟩ => ?_)
  obtain ⟨⟨a, rfl⟩, q1⟩ := q1
  obtain ⟨t, rfl⟩ := _root_.id r1
  refine ⟨"str", _, PySem.F.plainAttrs_str, slot, ty, typeIs_str _ _ _, (fun _ e => nomatch e), Calls.callWith_builtin rfl (Calls.evalArgs_plain (Calls.spliced_cons ?_))⟩
  exact thn (he.run pins s1 σ H1 _ I1 q1) fun u s2 ⟨y, H2, I2, r2, q2⟩ => Calls.spliced_nil (rule pins s2 σ H2 _ [y] _ [u] Q I2 r1 (.cons r2 .nil) q2)
theorem pet_lcW {elt tg l : Expr} {ifs : List Expr} {scope : Scope} {own : List (Str × Nat)} {pos : Pos} {tl : TE} {g : TG} {tt : TT} {te : TE} (hw : Warm X) (hN : X.N.Nodup) (hl : PET X l tl) (ok : BlkOk X.N X.env.scope scope own)
    (hg : ∀ s H C cl fp, PG (blkP X s H scope (compEnvC scope cl C X.env) fp) tg g) (ht : ∀ s H C cl fp, PTs (blkP X s H scope (compEnvC scope cl C X.env) fp) ifs tt)
    (he : ∀ s H C cl fp, PE (blkP X s H scope (compEnvC scope cl C X.env) fp) elt te) (hs : ∀ x, foldedSetIterable l X.env x = pure x := by intro _; rfl) :
    PET X (.ListComp elt [⟨tg, l, ifs, 0⟩] scope pos) (tLcW X.K tl g tt te (own.map (·.2))) :=
  fun pins s σ H Q h0 I h => lcW_at hw hN (fun R r => hl pins s σ H R h0 I r) ok hg ht he I h hs
theorem psstNox {sts : List Stmt} {t : TS} (h : PSsT X.nox sts t) : PSsT X sts t := fun pins s σ H D h0 I hw =>
  wpAny_mono (h pins s σ H D h0 (I.wish _) hw) (fun _ _ q => q.unwish) fun _ _ z => False.elim z
end
/-- a def in calm, one token out -/
theorem calT {P : Program} {w : World} {K : PySem.W.Frag} {mg : Str → Option Value} {base : Heap} {x : Str} {params : Arguments} {body : List Stmt} {scope : Scope} {f : Addr} {fd : FuncData} {N ps : List Str} {k : Nat} {sp : Sp}
    (F : FunD K x x params body scope [] [] f fd) (g : mg x = some (.ref f)) (S : FnScope N ps scope) (hnc : ∀ y ∈ scope.names, y.2 ≠ .cell) (hps : 1 ≤ ps.length)
    (b : ∀ (kV doc pm : Value) (an : Option Addr) (cdv ct : Value) (us : List Value), us.length = ps.length → bindArgs (PySem.W.fnOf x x params body scope .none kV doc pm an cdv ct) ⟨us, []⟩ = pure (ps.zip us)) (len : ∀ vs H Q E, sp vs H Q E → vs.length = ps.length)
    (inside : ∀ (cdv : Value) (A : Around) (outer : List Env) (s : Shared) (H : Hp) (vs : List V) (Q : VK) (E : XK), Room k (A.deeper (envOfC x scope s.heap.objs.size f cdv)) → sp vs H Q E →
      ∃ t, PSsT (cxOf C8.CX0 P w K mg base N x scope f cdv A outer s H E).nox body t ∧ t { nx := fun _ H' => Q .non H', rt := Q } (L2.start N vs) H) : Cal P w K mg base (k + 1) x sp [] := by
  obtain ⟨oc, od, dV, kV, doc, pm, an, cdv, ct, osl, rfl, lk, hcd, _, _⟩ := F.ex
  refine ⟨f, _, ps, [], fn_ofT lk hcd S hnc hps len fun A outer s H vs Q E hr hsp => ?_, g, F.kp, F.bindsN b, .nil⟩
  obtain ⟨t, walk, q⟩ := inside cdv A outer s H vs Q E hr hsp
  exact ⟨t, psstNox walk, q⟩
end Lay

set_option Elab.async false
set_option linter.all false
set_option maxRecDepth 100000
set_option maxHeartbeats 0
/-! the top of k20: where its defs and classes stand -/
namespace W20
open PySem PySem.Spec PyProof.Rows L2
def top (i : Nat) : Stmt := PySem.Challenge.pw_waysacross_k20_trees_told.main.body.getD i (.Pass ⟨0, 0, 0, 0⟩)
def defD (x : Str) (i : Nat) : He.DefD := ⟨(x, none), x, x, defArgs (top i), defBody (top i), defScope (top i), [], []⟩
def metD (c x q : Str) (i j : Nat) : He.DefD := ⟨(c, some x), x, q, defArgs (inClass (top i) j), defBody (inClass (top i) j), defScope (inClass (top i) j), [], []⟩
/-- the defs, by their places in the top -/
def fns : List He.DefD := [defD "check_length" 22, defD "words_of" 23, defD "tree_words" 24, defD "is_value" 25, defD "is_name" 26, defD "tree_names" 28, defD "tree_halves" 29, defD "comb_of" 32, defD "_law_bag" 35, defD "_law_draw" 36, defD "_law_of" 37, defD "_law_mix" 38, defD "_law_like" 39, defD "_law_error" 40, defD "_law_try" 41, defD "_law_no" 42, defD "_law_bad" 43, defD "_law_refused" 44, defD "_law_barred" 45, defD "_law_name" 46, defD "_law_names" 47, defD "_law_leaf" 48, defD "_law_joined" 49, defD "_law_cut" 50, defD "_law_absent" 51, defD "_law_named" 52, defD "_law_tokens" 53, defD "_law_spaced" 54, defD "_law_bare_land" 55, defD "_law_lot_words" 56, defD "_law_read" 57, defD "_law_above" 58, defD "_law_node_right" 59, defD "_law_absent_right" 60, defD "_law_tree_right" 61, defD "_law_bent" 62, defD "_law_comb_right" 63, defD "law" 64,
  metD "Tree" "__init__" "Tree.__init__" 33 0, metD "Tree" "lot" "Tree.lot" 33 1, metD "Tree" "rest" "Tree.rest" 33 2, metD "Tree" "halves" "Tree.halves" 33 3, metD "Tree" "above" "Tree.above" 33 4, metD "Tree" "__eq__" "Tree.__eq__" 33 5, metD "Tree" "__len__" "Tree.__len__" 33 6, metD "Tree" "__iter__" "Tree.__iter__" 33 7, metD "Tree" "__repr__" "Tree.__repr__" 33 8,
  metD "BadTree" "__init__" "BadTree.__init__" 2 0, metD "NoSuch" "__init__" "NoSuch.__init__" 14 0, metD "TooMany" "__init__" "TooMany.__init__" 13 0]
/-- the own exceptions -/
def excs : List Str := ["BadBook", "BadTree", "BadForm", "BadPaper", "BadDrawing", "BadScript", "BadPart", "BadNumber", "BadLot", "NotOne", "Lied", "Unlike", "TooMany", "NoSuch", "Ended"]
def frees : List Str := ["isinstance", "len", "int", "str", "list", "tuple", "dict", "bool", "range", "set", "iter", "all", "repr", "ValueError", "LookupError", "RuntimeError"]
def fields : List Str := ["leaves", "nodes", "root", "text", "_halves", "_lots", "_above"]
def fas : List He.Fa := (fns.filterMap fun d => if d.at_.2 = none then some (He.Fa.glo d.at_.1) else none) ++ (excs.map fun x => He.Fa.glo x) ++ (frees.map fun x => He.Fa.free x) ++ (fields.map fun x => He.Fa.noat "Tree" x) ++
  [.int "MOST_SIGNS" 8, .int "MOST_TEXT" 200000, .int "MOST_LEAVES" 24, .str "LETTERS" "abcdefghijklmnopqrstuvwxyz", .str "SIGNS" "abcdefghijklmnopqrstuvwxyz0123456789", .glo "RESERVED", .glo "Tree", .keep "BadTree", .keep "NoSuch", .keep "TooMany", .cls "Tree", .mkr "Tree", .meth "Tree" "lot", .meth "Tree" "rest", .meth "Tree" "halves", .meth "Tree" "above", .meth "Tree" "__eq__", .meth "Tree" "__len__", .meth "Tree" "__iter__", .meth "Tree" "__repr__"]
/-- the class at C is an exception's over the base whose maker is n and whose mro is tail, with an own __init__ -/
def oexG (K : PySem.W.Frag) (C : Addr) (n : String) (tail : List Value) : Bool := match K.lookup C with
  | some ⟨.type t, _, .cls cd, sl⟩ => (match cd.mro, sl.toList with
    | .ref C' :: bm, [_, _, _, _, some (.builtin n'), _] => decide (t = "type") && (decide (C' = C) && (decide (n' = n) && (!cd.hasDel && (cd.hasDict && decide (bm = tail)))))
    | _, _ => false)
  | _ => false
/-- what is asked of a class of own errors: its field, what its instances are -/
def excB (K : PySem.W.Frag) (x : Str) (base n : String) (f : Str) : Bool :=
  oexG K (He.ga K x) n [.type base, .type "Exception", .type "BaseException", .type "object"] && (xfB K (He.ga K x) && (decide (PySem.W.findIn K (.ref (He.ga K x)) f = some none) &&
  (decide (PySem.W.findIn K (.ref (He.ga K x)) "__setattr__" = some (some (.builtin "object.__setattr__"))) && (decide (PySem.W.typeIn K (.ref (He.ga K x)) = some (.type "type")) &&
  (decide (PySem.W.findIn K (.ref (He.ga K x)) "__init__" = some (some (.ref (He.fAd K (x, some "__init__"))))) && (decide (PySem.W.typeIn K (.ref (He.fAd K (x, some "__init__"))) = some (.type "function")) &&
  (decide (PySem.W.findIn K (.ref (He.ga K x)) "__class__" = some (some (.builtin "object.__class__"))) && (decide (PySem.W.mroIn K (He.ga K x) (.type "object") = some true) &&
  ((excs.all fun y => decide (PySem.W.exmOne K (.ref (He.ga K x)) (.ref (He.ga K y)) = some (decide (y = x))) && decide (PySem.W.kitOne K (.ref (He.ga K x)) (.ref (He.ga K y)) = some (decide (y = x)))) &&
  (["ValueError", "LookupError", "RuntimeError"] : List String).all fun y => decide (PySem.W.kitOne K (.ref (He.ga K x)) (.type y) = some (decide (y = base))))))))))))
/-- a global's tuple of texts -/
def tupB (K : PySem.W.Frag) (x : Str) (ys : List Str) : Bool := match K.lookup (He.ga K x) with
  | some ⟨.type t, none, .seq its _, _⟩ => decide (t = "tuple") && decide (its.toList.map (fun v => match v with | .str y _ => some y | _ => none) = ys.map some)
  | _ => false
def reserved : List Str := ["book", "form", "drawing", "tree", "shown", "hidden", "seen", "chance", "table", "over", "of", "node", "pivot", "none", "weight", "looks", "ladder", "lead", "family", "lot", "done", "swap", "left", "right", "as"]
def tfs : List He.Defn := [("_law_absent_right", none), ("_law_tree_right", none), ("_law_comb_right", none), ("law", none)]
def exB (K : PySem.W.Frag) : Bool :=
  decide ((tfs.map fun p => (He.cT K p).2).Nodup) && (excB K "BadTree" "ValueError" "ValueError.__new__" "why" && (excB K "NoSuch" "LookupError" "LookupError.__new__" "name" && (excB K "TooMany" "ValueError" "ValueError.__new__" "what" && (decide (PySem.W.findIn K (.ref (He.ga K "TooMany")) "bound" = some none) &&
  (decide (PySem.W.specialIn K (.builtin "object.__class__") "__get__" = some (some (.builtin "getset_descriptor.__get__"))) && (decide (PySem.W.takesIn K (.builtin "object.__class__") = some true) &&
  (decide (PySem.W.kitOne K (.ref (He.ga K "Tree")) (.ref (He.ga K "Tree")) = some true) && (decide (PySem.W.findIn K (.ref (He.ga K "Tree")) "__class__" = some (some (.builtin "object.__class__"))) && (decide (PySem.W.mroIn K (He.ga K "Tree") (.type "object") = some true) && (tupB K "RESERVED" reserved && (decide (PySem.W.nsIn K cStatics "sys.int_max_str_digits" = some none) &&
  (decide (PySem.W.findIn K (.ref (He.ga K "Tree")) "__ne__" = some (some (.builtin "object.__ne__"))) && (["str", "tuple", "int"] : List String).all fun t => decide (PySem.W.kitOne K (.type t) (.ref (He.ga K "Tree")) = some false) && PySem.W.notFirst K (He.ga K "Tree") (.type t)))))))))))))
/-! the Hook: what the module's names reach, and the statics -/
def asS (g : Addr → Option Obj) (n : Nat) : List Addr := cStatics :: He.asD g n
def obsS (g : Addr → Option Obj) : He.AlX := (He.obsT fas fns [] (He.frT g (asS g 5)), exB (He.frT g (asS g 5)) && He.tabsB g tfs (He.frT g (asS g 5)))
theorem saysS_of {w : World} {h : Heap} (e : obsS h.get? = He.valX fns [] w) : He.SaysX fas fns [] tfs exB w h (He.frT h.get? (asS h.get? 5)) := by
  have e1 : He.obsT fas fns [] (He.frT h.get? (asS h.get? 5)) = He.valT fns [] w := congrArg (fun z : He.AlX => z.1) e
  have e2 : (exB (He.frT h.get? (asS h.get? 5)) && He.tabsB h.get? tfs (He.frT h.get? (asS h.get? 5))) = true := congrArg (fun z : He.AlX => z.2) e
  obtain ⟨h1, h2⟩ := He.ba e2
  have key : ∀ p ∈ tfs, PySem.W.codeHdIn (He.frT h.get? (asS h.get? 5)) (He.cT (He.frT h.get? (asS h.get? 5)) p).1 (He.cT (He.frT h.get? (asS h.get? 5)) p).2 = true ∧ ∃ o, h.get? (He.cT (He.frT h.get? (asS h.get? 5)) p).2 = some o ∧ He.emptyTab o = true := fun p hp => by
    obtain ⟨h3, h4⟩ := He.ba (List.all_eq_true.mp h2 p hp)
    refine ⟨h3, ?_⟩
    cases q : h.get? (He.cT (He.frT h.get? (asS h.get? 5)) p).2 with
    | none =>
      rw [q] at h4
      cases h4
    | some o =>
      rw [q] at h4
      exact ⟨o, rfl, h4⟩
  exact ⟨e1, h1, fun p hp => (key p hp).1, fun p hp => by
    obtain ⟨_, o, q, z⟩ := key p hp
    exact He.frT_none q z, fun p hp => by
    obtain ⟨_, o, q, z⟩ := key p hp
    rw [q, He.emptyTab_eq z]⟩
def hkS : PySem.W.Hook where
  α := He.AlX
  obs := fun s => obsS s.heap.get?
  val := fun w => He.valX fns [] w
  says := fun w h => ∃ K : PySem.W.Frag, K.In h ∧ He.SaysX fas fns [] tfs exB w h K
  of := fun _ _ e => ⟨_, He.frT_in, saysS_of e⟩
  keeps := fun _ _ _ ⟨K, hK, c⟩ k => ⟨K, PySem.W.Frag.In.keeps hK k, ⟨c.t, c.more, c.hd, c.out, fun p hp => k _ _ (c.empty p hp)⟩⟩
abbrev R : PySem.W.OpenRow := PySem.W.OpenLaw.row PySem.Challenge.rw_waysacross_k20_trees_told
def ob (s : PySem.W.SharedT) : He.AlX := obsS (HandSHeadRun.getT s)
theorem ob_eq (s : PySem.W.SharedT) : ob s = hkS.obs s.abs := by
  show obsS (HandSHeadRun.getT s) = obsS s.abs.heap.get?
  rw [show HandSHeadRun.getT s = s.abs.heap.get? from funext (HandSHeadRun.getT_eq s)]
def loose1 : List Str := ["__name__", "BadBook", "BadTree", "BadForm", "BadPaper", "BadDrawing", "BadScript", "BadPart", "BadNumber", "BadLot", "NotOne", "Lied", "Unlike", "TooMany", "NoSuch", "Ended", "RESERVED", "LETTERS", "SIGNS", "MOST_SIGNS", "MOST_TEXT", "MOST_LEAVES", "Tree"]
def loose2 : List Str := ["check_length", "words_of", "tree_words", "is_value", "is_name", "tree_names", "tree_halves", "comb_of", "_law_bag", "_law_draw", "_law_of", "_law_mix", "_law_like", "_law_error", "_law_try", "_law_no", "_law_bad", "_law_refused"]
def loose3 : List Str := ["_law_barred", "_law_name", "_law_names", "_law_leaf", "_law_joined", "_law_cut", "_law_absent", "_law_named", "_law_tokens", "_law_spaced", "_law_bare_land", "_law_lot_words", "_law_read", "_law_above", "_law_node_right", "_law_absent_right", "_law_tree_right", "_law_bent", "_law_comb_right"]
def loose : List Str := loose1 ++ loose2 ++ loose3
end W20

set_option Elab.async false
set_option linter.all false
/-! P20: trees, their texts and words, in plain Lean -/
namespace P20
abbrev Wd := List Nat
inductive Tr where
  | leaf (w : Wd)
  | node (l r : Tr)
  deriving DecidableEq
open Tr
def spell : Tr → List Nat
  | leaf w => w
  | node l r => 40 :: (spell l ++ 32 :: (spell r ++ [41]))
def toks : Tr → List Wd
  | leaf w => [w]
  | node l r => [40] :: (toks l ++ (toks r ++ [[41]]))
def leaves : Tr → List Wd
  | leaf w => [w]
  | node l r => leaves l ++ leaves r
/-- all nodes, the halves ahead of the whole -/
def nodes : Tr → List Tr
  | leaf w => [leaf w]
  | node l r => nodes l ++ nodes r ++ [node l r]
/-- signs of names: no space, no bracket -/
def Sign (c : Nat) : Prop := c ≠ 32 ∧ c ≠ 40 ∧ c ≠ 41
structure Name (w : Wd) : Prop where
  ne : w ≠ []
  signs : ∀ c ∈ w, Sign c
/-- all names of the tree are names -/
def Ok (t : Tr) : Prop := ∀ w ∈ leaves t, Name w
theorem Ok.l {l r : Tr} (h : Ok (node l r)) : Ok l := fun w hw => h w (List.mem_append_left _ hw)
theorem Ok.r {l r : Tr} (h : Ok (node l r)) : Ok r := fun w hw => h w (List.mem_append_right _ hw)
theorem Ok.node {l r : Tr} (h : Ok l) (k : Ok r) : Ok (node l r) := fun w hw => (List.mem_append.mp hw).elim (h w) (k w)
theorem Ok.name {w : Wd} (h : Ok (leaf w)) : Name w := h w (List.mem_singleton.mpr rfl)
/-- the rest begins with a space or a bracket, or there is none -/
def Stops (x : List Nat) : Prop := ∀ c ∈ x.head?, ¬ Sign c
theorem stop32 {x : List Nat} : Stops (32 :: x) := fun c hc => by
  cases hc
  exact fun h => h.1 rfl
theorem stop41 {x : List Nat} : Stops (41 :: x) := fun c hc => by
  cases hc
  exact fun h => h.2.2 rfl
theorem word_eq : ∀ {w v x y : List Nat}, (∀ c ∈ w, Sign c) → (∀ c ∈ v, Sign c) → Stops x → Stops y → w ++ x = v ++ y → w = v ∧ x = y
  | [], [], _, _, _, _, _, _, h => ⟨rfl, h⟩
  | [], c :: v, x, y, _, hv, hx, _, h => by
    have h : x = c :: (v ++ y) := h
    exact absurd (hv c List.mem_cons_self) (hx c (by rw [h]; rfl))
  | c :: w, [], x, y, hw, _, _, hy, h => by
    have h : c :: (w ++ x) = y := h
    exact absurd (hw c List.mem_cons_self) (hy c (by rw [← h]; rfl))
  | c :: w, d :: v, x, y, hw, hv, hx, hy, h => by
    obtain ⟨rfl, h1⟩ := List.cons.inj (show c :: (w ++ x) = d :: (v ++ y) from h)
    obtain ⟨rfl, rfl⟩ := word_eq (fun c hc => hw c (List.mem_cons_of_mem _ hc)) (fun c hc => hv c (List.mem_cons_of_mem _ hc)) hx hy h1
    exact ⟨rfl, rfl⟩
/-- a tree's text is read off the front in one way -/
theorem spell_front : ∀ {a b : Tr} {x y : List Nat}, Ok a → Ok b → (Stops x ∨ ∃ l r, a = node l r) → (Stops y ∨ ∃ l r, b = node l r) → spell a ++ x = spell b ++ y → a = b ∧ x = y
  | leaf w, leaf v, x, y, ha, hb, hx, hy, h => by
    have hx : Stops x := hx.elim id fun ⟨_, _, z⟩ => by cases z
    have hy : Stops y := hy.elim id fun ⟨_, _, z⟩ => by cases z
    obtain ⟨rfl, rfl⟩ := word_eq ha.name.signs hb.name.signs hx hy h
    exact ⟨rfl, rfl⟩
  | leaf w, node l r, x, y, ha, hb, hx, hy, h => by
    have n := ha.name
    cases w with
    | nil => exact absurd rfl n.ne
    | cons c w =>
      have e : c = 40 := (List.cons.inj (show c :: (w ++ x) = 40 :: _ from h)).1
      exact absurd e (n.signs c List.mem_cons_self).2.1
  | node l r, leaf w, x, y, ha, hb, hx, hy, h => by
    have n := hb.name
    cases w with
    | nil => exact absurd rfl n.ne
    | cons c w =>
      have e : 40 = c := (List.cons.inj (show 40 :: _ = c :: (w ++ y) from h)).1
      exact absurd e.symm (n.signs c List.mem_cons_self).2.1
  | node l r, node l' r', x, y, ha, hb, hx, hy, h => by
    have h : 40 :: (spell l ++ 32 :: (spell r ++ [41])) ++ x = 40 :: (spell l' ++ 32 :: (spell r' ++ [41])) ++ y := h
    have h1 : spell l ++ (32 :: (spell r ++ (41 :: x))) = spell l' ++ (32 :: (spell r' ++ (41 :: y))) := by
      simpa using h
    obtain ⟨rfl, h2⟩ := spell_front ha.l hb.l (.inl stop32) (.inl stop32) h1
    have h3 : spell r ++ (41 :: x) = spell r' ++ (41 :: y) := (List.cons.inj h2).2
    obtain ⟨rfl, h4⟩ := spell_front ha.r hb.r (.inl stop41) (.inl stop41) h3
    exact ⟨rfl, (List.cons.inj h4).2⟩
theorem stop_nil : Stops [] := fun c hc => by cases hc
theorem spell_inj {a b : Tr} (ha : Ok a) (hb : Ok b) (h : spell a = spell b) : a = b :=
  (spell_front (x := []) (y := []) ha hb (.inl stop_nil) (.inl stop_nil) (by rw [h])).1
/-- where the text of a pair begins within a tree's text, there it ends, too -/
theorem inside {a b : Tr} (hn : Ok (node a b)) : ∀ {t : Tr} {Z p q : List Nat}, Ok t → spell t ++ Z = p ++ (spell (node a b) ++ q) → p.length < (spell t).length → ∃ q', q = q' ++ Z ∧ spell t = p ++ (spell (node a b) ++ q')
  | leaf w, Z, p, q, ht, h, hl => by
    have hl : p.length < w.length := hl
    have e := congrArg (fun l => l[p.length]?) h
    have e1 : (w ++ Z)[p.length]? = some (w[p.length]'hl) := by rw [List.getElem?_append_left hl, List.getElem?_eq_getElem hl]
    have e2 : (p ++ (spell (node a b) ++ q))[p.length]? = some 40 := by
      rw [List.getElem?_append_right (Nat.le_refl _), Nat.sub_self]
      rfl
    have e3 : some (w[p.length]'hl) = some 40 := e1.symm.trans (e.trans e2)
    exact absurd (Option.some.inj e3) (ht.name.signs _ (List.getElem_mem hl)).2.1
  | node l r, Z, [], q, ht, h, _ => by
    obtain ⟨e, rfl⟩ := spell_front (x := Z) (y := q) ht hn (.inr ⟨_, _, rfl⟩) (.inr ⟨_, _, rfl⟩) h
    exact ⟨[], rfl, by rw [e]; simp⟩
  | node l r, Z, c :: p, q, ht, h, hl => by
    have h : 40 :: (spell l ++ 32 :: (spell r ++ [41])) ++ Z = c :: (p ++ (spell (node a b) ++ q)) := h
    have h0 : 40 :: (spell l ++ (32 :: (spell r ++ (41 :: Z)))) = c :: (p ++ (spell (node a b) ++ q)) := by simpa using h
    obtain ⟨rfl, h1⟩ := List.cons.inj h0
    have hl : p.length < (spell l ++ 32 :: (spell r ++ [41])).length := Nat.lt_of_succ_lt_succ hl
    have at40 : ∀ {u v p : List Nat} {d : Nat}, d ≠ 40 → u ++ d :: v = p ++ (spell (node a b) ++ q) → p.length ≠ u.length := fun {u v p d} nd e z => by
      have e1 := congrArg (fun l => l[u.length]?) e
      have e2 : (u ++ d :: v)[u.length]? = some d := by
        rw [List.getElem?_append_right (Nat.le_refl _), Nat.sub_self]
        rfl
      have e3 : (p ++ (spell (node a b) ++ q))[u.length]? = some 40 := by
        rw [← z, List.getElem?_append_right (Nat.le_refl _), Nat.sub_self]
        rfl
      exact nd (Option.some.inj (e2.symm.trans (e1.trans e3)))
    by_cases c1 : p.length < (spell l).length
    · obtain ⟨q', rfl, e⟩ := inside hn ht.l h1 c1
      refine ⟨q' ++ (32 :: (spell r ++ [41])), by simp, ?_⟩
      show 40 :: (spell l ++ 32 :: (spell r ++ [41])) = _
      rw [e]
      simp
    · have c2 := at40 (by decide) h1
      obtain ⟨p2, rfl⟩ : ∃ p2, p = spell l ++ p2 := by
        have pe : p = (spell l ++ (32 :: (spell r ++ (41 :: Z)))).take p.length := by rw [h1, List.take_left]
        rw [List.take_append] at pe
        rw [List.take_of_length_le (by omega)] at pe
        exact ⟨_, pe⟩
      rw [List.append_assoc, List.append_cancel_left_eq] at h1
      cases p2 with
      | nil => simp at c2
      | cons d p2 =>
        obtain ⟨rfl, h2⟩ := List.cons.inj (show 32 :: (spell r ++ (41 :: Z)) = d :: (p2 ++ (spell (node a b) ++ q)) from h1)
        have hl : p2.length < (spell r ++ [41]).length := by
          simp only [List.length_append, List.length_cons, List.length_nil] at hl ⊢
          omega
        have c3 := at40 (by decide) h2
        have c4 : p2.length < (spell r).length := by
          simp only [List.length_append, List.length_cons, List.length_nil] at hl
          omega
        obtain ⟨q', rfl, e⟩ := inside hn ht.r h2 c4
        refine ⟨q' ++ [41], by simp, ?_⟩
        show 40 :: (spell l ++ 32 :: (spell r ++ [41])) = _
        rw [e]
        simp
/-- old, wherever it stands, by new -/
def put (old new : Tr) : Tr → Tr
  | leaf w => if leaf w = old then new else leaf w
  | node l r => if node l r = old then new else node (put old new l) (put old new r)
theorem mem_leaves : ∀ {t n : Tr}, n ∈ nodes t → ∀ w ∈ leaves n, w ∈ leaves t
  | leaf w, n, h, v, hv => by
    rw [List.mem_singleton.mp h] at hv
    exact hv
  | node l r, n, h, v, hv => by
    rcases List.mem_append.mp h with h | h
    · rcases List.mem_append.mp h with h | h
      · exact List.mem_append_left _ (mem_leaves h v hv)
      · exact List.mem_append_right _ (mem_leaves h v hv)
    · rw [List.mem_singleton.mp h] at hv
      exact hv
theorem leaves_pos : ∀ t : Tr, leaves t ≠ []
  | leaf w => by simp [leaves]
  | node l r => by
    have := leaves_pos l
    simp [leaves, this]
/-- a tree without the old one stays -/
theorem put_id {old new : Tr} : ∀ {t : Tr}, old ∉ nodes t → put old new t = t
  | leaf w, h => by
    rw [put, if_neg fun e => h (by rw [← e]; exact List.mem_singleton.mpr rfl)]
  | node l r, h => by
    rw [put, if_neg fun e => h (by rw [← e]; exact List.mem_append_right _ (List.mem_singleton.mpr rfl)), put_id fun z => h (List.mem_append_left _ (List.mem_append_left _ z)), put_id fun z => h (List.mem_append_left _ (List.mem_append_right _ z))]
theorem not_both {l r n : Tr} (hd : (leaves l ++ leaves r).Nodup) (h1 : n ∈ nodes l) (h2 : n ∈ nodes r) : False := by
  obtain ⟨w, hw⟩ := List.exists_mem_of_ne_nil _ (leaves_pos n)
  exact (List.nodup_append.mp hd).2.2 w (mem_leaves h1 w hw) w (mem_leaves h2 w hw) rfl
/-- the text of the pair by another text, where it stands: the tree with the pair by the other one -/
theorem spell_put {a b new : Tr} (hn : Ok (node a b)) : ∀ {t : Tr} {p q : List Nat}, Ok t → (leaves t).Nodup → spell t = p ++ (spell (node a b) ++ q) → node a b ∈ nodes t ∧ spell (put (node a b) new t) = p ++ (spell new ++ q)
  | leaf w, p, q, ht, hd, h => by
    have hl : p.length < w.length := by
      have := congrArg List.length h
      simp only [spell, List.length_append, List.length_cons] at this
      omega
    obtain ⟨q', _, e⟩ := inside hn (t := leaf w) (Z := []) ht (by rw [List.append_nil]; exact h) hl
    have m : (40 : Nat) ∈ w := by
      have e : w = _ := e
      rw [e]
      simp [spell]
    exact absurd rfl (ht.name.signs _ m).2.1
  | node l r, [], q, ht, hd, h => by
    obtain ⟨e, e2⟩ := spell_front (x := []) (y := q) ht hn (.inr ⟨_, _, rfl⟩) (.inr ⟨_, _, rfl⟩) (by rw [List.append_nil]; exact h)
    subst e2
    rw [← e]
    refine ⟨List.mem_append_right _ (List.mem_singleton.mpr rfl), ?_⟩
    rw [put, if_pos rfl]
    simp
  | node l r, c :: p, q, ht, hd, h => by
    have h0 : 40 :: (spell l ++ (32 :: (spell r ++ [41]))) = c :: (p ++ (spell (node a b) ++ q)) := h
    obtain ⟨rfl, h1⟩ := List.cons.inj h0
    have hdl : (leaves l).Nodup := (List.nodup_append.mp hd).1
    have hdr : (leaves r).Nodup := (List.nodup_append.mp hd).2.1
    have ne : node l r ≠ node a b := fun e => by
      have := congrArg List.length h
      rw [e] at this
      simp only [List.length_append, List.length_cons] at this
      omega
    have hlen := congrArg List.length h1
    have snl : (spell (node a b)).length = (spell a).length + (spell b).length + 3 := by
      simp only [spell, List.length_append, List.length_cons, List.length_nil]
      omega
    simp only [List.length_append, List.length_cons, List.length_nil] at hlen
    rw [snl] at hlen
    by_cases c1 : p.length < (spell l).length
    · obtain ⟨q', rfl, e⟩ := inside hn ht.l h1 c1
      obtain ⟨m, ih⟩ := spell_put hn ht.l hdl e
      refine ⟨List.mem_append_left _ (List.mem_append_left _ m), ?_⟩
      rw [put, if_neg ne, put_id (t := r) fun z => not_both hd m z]
      show 40 :: (spell (put (node a b) new l) ++ 32 :: (spell r ++ [41])) = _
      rw [ih]
      simp
    · obtain ⟨p2, rfl⟩ : ∃ p2, p = spell l ++ p2 := by
        have pe : p = (spell l ++ (32 :: (spell r ++ [41]))).take p.length := by rw [h1, List.take_left]
        rw [List.take_append] at pe
        rw [List.take_of_length_le (by omega)] at pe
        exact ⟨_, pe⟩
      rw [List.append_assoc, List.append_cancel_left_eq] at h1
      cases p2 with
      | nil => exact absurd (List.cons.inj (show 32 :: (spell r ++ [41]) = 40 :: _ from h1)).1 (by decide)
      | cons d p2 =>
        obtain ⟨rfl, h2⟩ := List.cons.inj (show 32 :: (spell r ++ [41]) = d :: (p2 ++ (spell (node a b) ++ q)) from h1)
        have hl2 := congrArg List.length h2
        simp only [List.length_append, List.length_cons, List.length_nil] at hl2
        rw [snl] at hl2
        obtain ⟨q', rfl, e⟩ := inside hn ht.r h2 (by omega)
        obtain ⟨m, ih⟩ := spell_put hn ht.r hdr e
        refine ⟨List.mem_append_left _ (List.mem_append_right _ m), ?_⟩
        rw [put, if_neg ne, put_id (t := l) fun z => not_both hd z m]
        show 40 :: (spell l ++ 32 :: (spell (put (node a b) new r) ++ [41])) = _
        rw [ih]
        simp
/-- a node's text stands in the tree's -/
theorem spell_in : ∀ {t n : Tr}, n ∈ nodes t → ∃ p q, spell t = p ++ (spell n ++ q)
  | leaf w, n, h => by
    rw [List.mem_singleton.mp h]
    exact ⟨[], [], by simp⟩
  | node l r, n, h => by
    rcases List.mem_append.mp h with h | h
    · rcases List.mem_append.mp h with h | h
      · obtain ⟨p, q, e⟩ := spell_in h
        exact ⟨40 :: p, q ++ 32 :: (spell r ++ [41]), by rw [spell, e]; simp⟩
      · obtain ⟨p, q, e⟩ := spell_in h
        exact ⟨40 :: (spell l ++ 32 :: p), q ++ [41], by rw [spell, e]; simp⟩
    · rw [List.mem_singleton.mp h]
      exact ⟨[], [], by simp⟩
end P20

set_option Elab.async false
set_option linter.all false
/-! Q20: texts into words and back, in plain Lean -/
namespace P20
open Tr PySem PyProof.Rows L2
/-- words of a text: the words that end before, the word at its end -/
def fl (a : Wd) : List Wd := if a = [] then [] else [a]
def step (s : List Wd × Wd) (c : Nat) : List Wd × Wd := if c = 32 then (s.1 ++ fl s.2, []) else if c = 40 ∨ c = 41 then (s.1 ++ fl s.2 ++ [[c]], []) else (s.1, s.2 ++ [c])
def cutAt (s : List Wd × Wd) (c : Nat) : List Wd × Wd := if c = 32 then (s.1 ++ fl s.2, []) else (s.1, s.2 ++ [c])
def run (s : List Wd × Wd) (x : List Nat) : List Wd × Wd := x.foldl step s
def fin (s : List Wd × Wd) : List Wd := s.1 ++ fl s.2
def words (x : List Nat) : List Wd := fin (run ([], []) x)
theorem run_app (s : List Wd × Wd) (x y : List Nat) : run s (x ++ y) = run (run s x) y := List.foldl_append
theorem fl_ne {a : Wd} (h : a ≠ []) : fl a = [a] := if_neg h
theorem fl_nil : fl [] = [] := rfl
theorem run_signs {o : List Wd} : ∀ {w a : Wd}, (∀ c ∈ w, Sign c) → run (o, a) w = (o, a ++ w)
  | [], a, _ => by simp [run]
  | c :: w, a, h => by
    have hc := h c List.mem_cons_self
    have e : step (o, a) c = (o, a ++ [c]) := by
      unfold step
      rw [if_neg hc.1, if_neg (fun z => z.elim hc.2.1 hc.2.2)]
    show run (step (o, a) c) w = _
    rw [e, run_signs fun d hd => h d (List.mem_cons_of_mem _ hd)]
    simp
theorem run_name {w : Wd} {o : List Wd} (h : Name w) : run (o, []) w = (o, w) := by
  rw [run_signs h.signs, List.nil_append]
theorem run_space {o : List Wd} {a : Wd} {x : List Nat} : run (o, a) (32 :: x) = run (o ++ fl a, []) x := rfl
theorem run_40 {o : List Wd} {a : Wd} {x : List Nat} : run (o, a) (40 :: x) = run (o ++ fl a ++ [[40]], []) x := rfl
theorem run_41 {o : List Wd} {a : Wd} {x : List Nat} : run (o, a) (41 :: x) = run (o ++ fl a ++ [[41]], []) x := rfl
/-- a tree's text, read from between two words on -/
theorem run_spell : ∀ {t : Tr} {o : List Wd}, Ok t → ∃ o' a, run (o, []) (spell t) = (o', a) ∧ o' ++ fl a = o ++ toks t
  | leaf w, o, h => ⟨o, w, run_name h.name, by rw [fl_ne h.name.ne, toks]⟩
  | node l r, o, h => by
    obtain ⟨o1, a1, e1, h1⟩ := run_spell (o := o ++ [[40]]) h.l
    obtain ⟨o2, a2, e2, h2⟩ := run_spell (o := o1 ++ fl a1) h.r
    refine ⟨o ++ toks (node l r), [], ?_, by rw [fl_nil, List.append_nil]⟩
    show run (o, []) (40 :: (spell l ++ 32 :: (spell r ++ [41]))) = _
    rw [run_40, fl_nil, List.append_nil, run_app, e1, run_space, run_app, e2, run_41, h2, h1, toks]
    show (o ++ [[40]] ++ toks l ++ toks r ++ [[41]], []) = _
    simp
theorem words_spell {t : Tr} (h : Ok t) : words (spell t) = toks t := by
  obtain ⟨o, a, e, h2⟩ := run_spell (o := []) h
  unfold words
  rw [e]
  exact h2
/-! ### as the program does it -/
def ne (w : Wd) : Bool := decide (w ≠ [])
theorem filter_one (a : Wd) : [a].filter ne = fl a := by
  by_cases h : a = [] <;> simp [ne, fl, h]
theorem spl_cut : ∀ (x : List Nat) (o : List Wd) (a : Wd), fin (x.foldl cutAt (o, a)) = o ++ (TL.spl [32] 0 a x).filter ne
  | [], o, a => by
    rw [show TL.spl [32] 0 a [] = [a] from rfl, filter_one]
    rfl
  | c :: r, o, a => by
    by_cases h : c = 32
    · subst h
      have e : TL.pre [32] (32 :: r) = true := rfl
      rw [TL.spl_hit e]
      show fin (r.foldl cutAt (o ++ fl a, [])) = _
      rw [spl_cut r, show TL.spl [32] ([32].length - 1) [] r = TL.spl [32] 0 [] r from rfl]
      have e2 : (a :: TL.spl [32] 0 [] r).filter ne = fl a ++ (TL.spl [32] 0 [] r).filter ne := by
        have := List.filter_append (p := ne) [a] (TL.spl [32] 0 [] r)
        rw [filter_one] at this
        exact this
      rw [e2, List.append_assoc]
    · have e : TL.pre [32] (c :: r) = false := by
        unfold TL.pre
        rw [List.length_singleton, List.take_succ_cons, List.take_zero]
        exact beq_eq_false_iff_ne.mpr fun z => h (List.cons.inj z).1
      have e2 : cutAt (o, a) c = (o, a ++ [c]) := if_neg h
      show fin (r.foldl cutAt (cutAt (o, a) c)) = _
      rw [e2, spl_cut r]
      have e3 : TL.spl [32] 0 a (c :: r) = TL.spl [32] 0 (a ++ [c]) r := by
        show (if TL.pre [32] (c :: r) = true then a :: TL.spl [32] ([32].length - 1) [] r else TL.spl [32] 0 (a ++ [c]) r) = _
        rw [if_neg (by rw [e]; decide)]
      rw [e3]
/-- one sign by a text -/
def sub (c : Nat) (z : List Nat) (x : List Nat) : List Nat := x.flatMap fun d => if d = c then z else [d]
theorem repl_sub (c : Nat) (z : List Nat) : ∀ x : List Nat, StrLaws.replL [c] z x = sub c z x
  | [] => StrLaws.replL_nil
  | d :: r => by
    by_cases h : d = c
    · subst h
      rw [StrLaws.replL_hit (by simp) rfl]
      show z ++ StrLaws.replL [d] z r = _
      rw [repl_sub d z r]
      simp [sub]
    · have mi : ¬ (d :: r).take [c].length = [c] := fun e => h (List.cons.inj (show d :: r.take 0 = [c] from e)).1
      rw [StrLaws.replL_miss mi, repl_sub c z r]
      simp [sub, h]
theorem foldl_sub {α : Type} (f : α → Nat → α) (c : Nat) (z : List Nat) : ∀ (x : List Nat) (s : α), (sub c z x).foldl f s = x.foldl (fun s d => if d = c then z.foldl f s else f s d) s
  | [], _ => rfl
  | d :: r, s => by
    show (((fun d => if d = c then z else [d]) d) ++ sub c z r).foldl f s = _
    rw [List.foldl_append, foldl_sub f c z r]
    show _ = r.foldl _ (if d = c then z.foldl f s else f s d)
    congr 1
    by_cases h : d = c <;> simp [h]
theorem prog_words (x : List Nat) : (TL.spl [32] 0 [] (StrLaws.replL [41] [32, 41, 32] (StrLaws.replL [40] [32, 40, 32] x))).filter ne = words x := by
  rw [repl_sub, repl_sub]
  have h := spl_cut (sub 41 [32, 41, 32] (sub 40 [32, 40, 32] x)) [] []
  rw [List.nil_append] at h
  rw [← h, foldl_sub, foldl_sub]
  unfold words run
  congr 2
  funext s d
  have f0 : ∀ s : List Wd × Wd, cutAt s 32 = (s.1 ++ fl s.2, []) := fun s => rfl
  by_cases h1 : d = 40
  · subst h1
    simp [step, cutAt, fl]
  · by_cases h2 : d = 41
    · subst h2
      simp [step, cutAt, fl]
    · simp [step, cutAt, h1, h2]
end P20

set_option Elab.async false
set_option linter.all false
/-! R20: the program's three machines on words: tree_text, tree_names, tree_halves -/
namespace P20
open Tr
/-- no bracket -/
def Plain (w : Wd) : Prop := w ≠ [40] ∧ w ≠ [41]
theorem Name.plain {w : Wd} (n : Name w) : Plain w := ⟨fun e => by
  have := n.signs 40 (by rw [e]; exact List.mem_singleton.mpr rfl)
  exact this.2.1 rfl, fun e => by
  have := n.signs 41 (by rw [e]; exact List.mem_singleton.mpr rfl)
  exact this.2.2 rfl⟩
/-! tree_text -/
def wr (s : List Nat × Wd) (w : Wd) : List Nat × Wd := (s.1 ++ (if w ≠ [41] ∧ s.2 ≠ [40] then [32] else []) ++ w, w)
theorem wr_toks : ∀ {t : Tr} {o : List Nat} {w : Wd}, Ok t → ∃ v, v ≠ [40] ∧ (toks t).foldl wr (o, w) = (o ++ (if w ≠ [40] then [32] else []) ++ spell t, v)
  | leaf u, o, w, h => ⟨u, h.name.plain.1, by simp [toks, wr, spell, h.name.plain.2]⟩
  | node l r, o, w, h => by
    obtain ⟨v1, n1, e1⟩ := wr_toks (o := o ++ (if w ≠ [40] then [32] else []) ++ [40]) (w := [40]) h.l
    obtain ⟨v2, n2, e2⟩ := wr_toks (o := o ++ (if w ≠ [40] then [32] else []) ++ [40] ++ spell l) (w := v1) h.r
    refine ⟨[41], by decide, ?_⟩
    have e0 : wr (o, w) [40] = (o ++ (if w ≠ [40] then [32] else []) ++ [40], [40]) := by simp [wr]
    have e1' : (toks l).foldl wr (o ++ (if w ≠ [40] then [32] else []) ++ [40], [40]) = (o ++ (if w ≠ [40] then [32] else []) ++ [40] ++ spell l, v1) := by
      rw [e1, if_neg (fun z : ([40] : Wd) ≠ [40] => z rfl), List.append_nil]
    rw [if_pos n1] at e2
    rw [toks, List.foldl_cons, e0, List.foldl_append, e1', List.foldl_append, e2]
    simp [wr, spell]
theorem text_toks {t : Tr} (h : Ok t) : ((toks t).foldl wr ([], [40])).1 = spell t := by
  obtain ⟨v, _, e⟩ := wr_toks (o := []) (w := [40]) h
  rw [e]
  simp
/-! tree_names: the names, the stack of halves counted (the last one last), whether the tree is ended; none: no tree -/
structure NS where
  names : List Wd
  halves : List Nat
  ended : Bool
/-- a half more on the last open pair -/
def bump : List Nat → List Nat
  | [] => []
  | [h] => [h + 1]
  | h :: k :: r => h :: bump (k :: r)
theorem bump_snoc : ∀ (xs : List Nat) (h : Nat), bump (xs ++ [h]) = xs ++ [h + 1]
  | [], h => rfl
  | [a], h => rfl
  | a :: b :: r, h => by
    show a :: bump (b :: (r ++ [h])) = _
    have := bump_snoc (b :: r) h
    rw [show b :: r ++ [h] = b :: (r ++ [h]) from rfl] at this
    rw [this]
    rfl
def close (names : List Wd) (halves : List Nat) : NS := if halves = [] then ⟨names, [], true⟩ else ⟨names, bump halves, false⟩
def nm (P : Wd → Bool) (s : NS) (w : Wd) : Option NS :=
  if s.ended then none
  else if w = [40] then some ⟨s.names, s.halves ++ [0], false⟩
  else if w ≠ [41] then (if P w then some (close (s.names ++ [w]) s.halves) else none)
  else if s.halves.getLast? = some 2 then some (close s.names s.halves.dropLast) else none
def nmAll (P : Wd → Bool) : List Wd → NS → Option NS
  | [], s => some s
  | w :: r, s => match nm P s w with
    | none => none
    | some s' => nmAll P r s'
theorem nm_app {P : Wd → Bool} : ∀ (x y : List Wd) (s : NS), nmAll P (x ++ y) s = (match nmAll P x s with | none => none | some s' => nmAll P y s')
  | [], y, s => rfl
  | w :: r, y, s => by
    show (match nm P s w with | none => none | some s' => nmAll P (r ++ y) s') = _
    show _ = (match (match nm P s w with | none => none | some s' => nmAll P r s') with | none => none | some s' => nmAll P y s')
    cases nm P s w with
    | none => rfl
    | some s' => exact nm_app r y s'
/-- all names are names by P -/
def Good (P : Wd → Bool) (t : Tr) : Prop := ∀ w ∈ leaves t, P w = true ∧ Name w
theorem Good.ok {P : Wd → Bool} {t : Tr} (h : Good P t) : Ok t := fun w hw => (h w hw).2
theorem Good.l {P : Wd → Bool} {l r : Tr} (h : Good P (node l r)) : Good P l := fun w hw => h w (List.mem_append_left _ hw)
theorem Good.r {P : Wd → Bool} {l r : Tr} (h : Good P (node l r)) : Good P r := fun w hw => h w (List.mem_append_right _ hw)
theorem close_open (ns : List Wd) (xs : List Nat) (h : Nat) : close ns (xs ++ [h]) = ⟨ns, xs ++ [h + 1], false⟩ := by
  rw [close, if_neg (by simp), bump_snoc]
theorem nm_toks {P : Wd → Bool} : ∀ {t : Tr} {ns : List Wd} {xs : List Nat}, Good P t → nmAll P (toks t) ⟨ns, xs, false⟩ = some (close (ns ++ leaves t) xs)
  | leaf w, ns, xs, h => by
    have g := h w (List.mem_singleton.mpr rfl)
    show (match nm P ⟨ns, xs, false⟩ w with | none => none | some s' => some s') = _
    have e : nm P ⟨ns, xs, false⟩ w = some (close (ns ++ [w]) xs) := by
      unfold nm
      rw [if_neg Bool.false_ne_true, if_neg g.2.plain.1, if_pos g.2.plain.2, if_pos g.1]
    rw [e]
    rfl
  | node l r, ns, xs, h => by
    show (match nm P ⟨ns, xs, false⟩ [40] with | none => none | some s' => nmAll P (toks l ++ (toks r ++ [[41]])) s') = _
    have e0 : nm P ⟨ns, xs, false⟩ [40] = some ⟨ns, xs ++ [0], false⟩ := rfl
    have e1 := nm_toks (ns := ns) (xs := xs ++ [0]) h.l
    rw [close_open] at e1
    have e2 := nm_toks (ns := ns ++ leaves l) (xs := xs ++ [1]) h.r
    rw [close_open] at e2
    rw [e0]
    show nmAll P (toks l ++ (toks r ++ [[41]])) _ = _
    rw [nm_app, e1]
    show nmAll P (toks r ++ [[41]]) _ = _
    rw [nm_app, e2]
    show (match nm P ⟨ns ++ leaves l ++ leaves r, xs ++ [2], false⟩ [41] with | none => none | some s' => some s') = _
    have e3 : nm P ⟨ns ++ leaves l ++ leaves r, xs ++ [2], false⟩ [41] = some (close (ns ++ leaves l ++ leaves r) xs) := by
      unfold nm
      rw [if_neg Bool.false_ne_true, if_neg (by decide), if_neg (by decide), if_pos (by simp)]
      simp
    rw [e3]
    simp [leaves]
/-- what tree_names tells of words -/
def namesOf (P : Wd → Bool) (ws : List Wd) : Option (List Wd) := match nmAll P ws ⟨[], [], false⟩ with
  | none => none
  | some s => if s.ended = true ∧ s.names.Nodup then some s.names else none
theorem names_toks {P : Wd → Bool} {t : Tr} (h : Good P t) (d : (leaves t).Nodup) : namesOf P (toks t) = some (leaves t) := by
  unfold namesOf
  rw [nm_toks h]
  show (if (close ([] ++ leaves t) []).ended = true ∧ (close ([] ++ leaves t) []).names.Nodup then _ else _) = _
  rw [if_pos ⟨rfl, by simpa [close] using d⟩]
  simp [close]
theorem names_more {P : Wd → Bool} {t : Tr} (h : Good P t) {w : Wd} {r : List Wd} : namesOf P (toks t ++ w :: r) = none := by
  unfold namesOf
  rw [nm_app, nm_toks h]
  rfl
theorem names_nil {P : Wd → Bool} : namesOf P [] = none := by
  unfold namesOf
  show (if (false = true ∧ _) then _ else _) = _
  rw [if_neg (fun z => by cases z.1)]
theorem names_open {P : Wd → Bool} {t : Tr} (h : Good P t) : namesOf P ([40] :: toks t) = none := by
  unfold namesOf
  have e : nmAll P ([40] :: toks t) ⟨[], [], false⟩ = some ⟨[] ++ leaves t, [1], false⟩ := by
    show nmAll P (toks t) ⟨[], [] ++ [0], false⟩ = _
    rw [nm_toks h, close_open]
    rfl
  rw [e]
  show (if (false = true ∧ _) then _ else _) = _
  rw [if_neg (fun z => by cases z.1)]
theorem names_empty {P : Wd → Bool} : namesOf P [[40], [41]] = none := by
  unfold namesOf
  have e : nmAll P [[40], [41]] ⟨[], [], false⟩ = none := by
    show (match nm P ⟨[], [0], false⟩ [41] with | none => none | some s' => some s') = none
    have e3 : nm P ⟨[], [0], false⟩ [41] = none := by
      unfold nm
      rw [if_neg Bool.false_ne_true, if_neg (by decide), if_neg (by decide), if_neg (by simp)]
    rw [e3]
  rw [e]
/-! tree_halves: the stack of texts (the last one last), the dict's entries -/
abbrev Ent := List Nat × Option (List Nat × List Nat)
def ent : Tr → Ent
  | leaf w => (w, none)
  | node l r => (spell (node l r), some (spell l, spell r))
def hv (s : List (List Nat) × List Ent) (w : Wd) : List (List Nat) × List Ent :=
  if w = [41] then
    let r := s.1.getLast?.getD []
    let l := s.1.dropLast.getLast?.getD []
    let x := 40 :: (l ++ 32 :: (r ++ [41]))
    (s.1.dropLast.dropLast ++ [x], s.2 ++ [(x, some (l, r))])
  else if w ≠ [40] then (s.1 ++ [w], s.2 ++ [(w, none)]) else s
theorem hv_toks : ∀ {t : Tr} {st : List (List Nat)} {en : List Ent}, Ok t → (toks t).foldl hv (st, en) = (st ++ [spell t], en ++ (nodes t).map ent)
  | leaf w, st, en, h => by
    show hv (st, en) w = _
    unfold hv
    rw [if_neg h.name.plain.2, if_pos h.name.plain.1]
    rfl
  | node l r, st, en, h => by
    have e0 : hv (st, en) [40] = (st, en) := rfl
    rw [toks, List.foldl_cons, e0, List.foldl_append, hv_toks h.l, List.foldl_append, hv_toks h.r]
    show hv _ [41] = _
    unfold hv
    rw [if_pos rfl]
    simp [nodes, ent, spell]
theorem ent_key : ∀ t : Tr, (ent t).1 = spell t
  | leaf w => rfl
  | node l r => rfl
theorem leaves_len {l r : Tr} : 1 ≤ (leaves l).length := List.length_pos_iff.mpr (leaves_pos l)
theorem sub_len : ∀ {t n : Tr}, n ∈ nodes t → (leaves n).length ≤ (leaves t).length
  | leaf w, n, h => by
    rw [List.mem_singleton.mp h]
    exact Nat.le_refl _
  | node l r, n, h => by
    show _ ≤ (leaves l ++ leaves r).length
    rw [List.length_append]
    rcases List.mem_append.mp h with h | h
    · rcases List.mem_append.mp h with h | h
      · have := sub_len h; omega
      · have := sub_len h; omega
    · rw [List.mem_singleton.mp h]
      show (leaves l ++ leaves r).length ≤ _
      rw [List.length_append]
      exact Nat.le_refl _
theorem nodes_nodup : ∀ {t : Tr}, (leaves t).Nodup → (nodes t).Nodup
  | leaf w, _ => by simp [nodes]
  | node l r, h => by
    have hl := nodes_nodup (List.nodup_append.mp h).1
    have hr := nodes_nodup (List.nodup_append.mp h).2.1
    show ((nodes l ++ nodes r) ++ [node l r]).Nodup
    rw [List.nodup_append]
    refine ⟨?_, by simp, fun a ha b hb e => ?_⟩
    · rw [List.nodup_append]
      exact ⟨hl, hr, fun a ha b hb e => not_both h ha (e ▸ hb)⟩
    · rw [List.mem_singleton.mp hb] at e
      have p1 : 1 ≤ (leaves l).length := List.length_pos_iff.mpr (leaves_pos l)
      have p2 : 1 ≤ (leaves r).length := List.length_pos_iff.mpr (leaves_pos r)
      have e2 : (leaves a).length = (leaves l ++ leaves r).length := by rw [e]; rfl
      rw [List.length_append] at e2
      rcases List.mem_append.mp ha with ha | ha
      · have := sub_len ha; omega
      · have := sub_len ha; omega
theorem ok_sub : ∀ {t n : Tr}, Ok t → n ∈ nodes t → Ok n := fun ht hn w hw => ht w (mem_leaves hn w hw)
theorem keys_nodup {t : Tr} (ht : Ok t) (h : (leaves t).Nodup) : ((nodes t).map fun n => spell n).Nodup := by
  have := nodes_nodup h
  rw [List.nodup_iff_pairwise_ne, List.pairwise_map]
  exact List.Pairwise.imp_of_mem (fun ha hb hne e => hne (spell_inj (ok_sub ht ha) (ok_sub ht hb) e)) (List.nodup_iff_pairwise_ne.mp this)
theorem spell_mem {t n : Tr} (ht : Ok t) (hn : Ok n) : spell n ∈ (nodes t).map (fun n => spell n) ↔ n ∈ nodes t := by
  constructor
  · intro h
    obtain ⟨m, hm, e⟩ := List.mem_map.mp h
    rw [← spell_inj (ok_sub ht hm) hn e]
    exact hm
  · exact fun h => List.mem_map.mpr ⟨n, h, rfl⟩
end P20

set_option Elab.async false
set_option linter.all false
set_option maxRecDepth 100000
set_option maxHeartbeats 4000000
/-! A20: words and names -/
namespace W20
open PySem PySem.Spec PyProof.Rows L2 Lay
open SX (S S_len S_cat S_tl)
open C8 (Cal pe_c pe_gc fnScope_by E0)
/-- what the module's names reach -/
structure Mg (K : PySem.W.Frag) (mg : Str → Option Value) : Prop where
  len_ : mg "len" = none
  int_ : mg "int" = none
  str_ : mg "str" = none
  bool_ : mg "bool" = none
  list_ : mg "list" = none
  tuple_ : mg "tuple" = none
  dict_ : mg "dict" = none
  range_ : mg "range" = none
  set_ : mg "set" = none
  iter_ : mg "iter" = none
  isinstance_ : mg "isinstance" = none
  mostText : ∃ u, mg "MOST_TEXT" = some u ∧ RelV (.int 200000) u
  mostSigns : ∃ u, mg "MOST_SIGNS" = some u ∧ RelV (.int 8) u
  mostLeaves : ∃ u, mg "MOST_LEAVES" = some u ∧ RelV (.int 24) u
  letters : ∃ u, mg "LETTERS" = some u ∧ RelV (.str "abcdefghijklmnopqrstuvwxyz") u
  signs : ∃ u, mg "SIGNS" = some u ∧ RelV (.str "abcdefghijklmnopqrstuvwxyz0123456789") u
  reserved : mg "RESERVED" = some (.ref (He.ga K "RESERVED"))
  reservedT : ∀ H : Hp, SqT K H (He.ga K "RESERVED") (W20.reserved.map V.str)
  all_ : mg "all" = none
  repr_ : mg "repr" = none
abbrev Fn (K : PySem.W.Frag) (x : Str) (i : Nat) (f : Addr) (fd : FuncData) : Prop := FunD K x x (defArgs (top i)) (defBody (top i)) (defScope (top i)) [] [] f fd
section
variable {P : Program} {w : World} {K : PySem.W.Frag} {mg : Str → Option Value} {base : Heap} {f : Addr} {fd : FuncData}
theorem sc23 : FnScope ["text"] ["text"] (defScope (top 22)) := fnScope_by (by decide +kernel)
def spLen : Sp := fun vs H Q _ => ∃ a : List Nat, vs = [.str (S a)] ∧ a.length ≤ 200000 ∧ Q .non H
theorem ok_check (m : Mg K mg) (F : Fn K "check_length" 22 f fd) (g : mg "check_length" = some (.ref f)) : Cal P w K mg base 1 "check_length" spLen [] := by
  have sc := sc23
  refine calD F g sc (fun _ _ _ _ _ _ us hl => match us, hl with | [_], _ => rfl) ?_ fun cdv A outer s H vs Q E hr h => ?_
  · rintro vs H Q E ⟨a, rfl, _⟩
    rfl
  · obtain ⟨a, rfl, hl, q⟩ := h
    refine ⟨_, (pss_one (ps_if (pt_cmpR op_gt (pe_callB call_len (by rfl) m.len_ boot_len (pa_cons (pv 0) pa_nil)) (pe_gc (v := .int 200000) (by rfl) m.mostText) (nomark _))
        (pss_one ps_never)
        pss_nil)), ?_⟩
    simp only [L2.start, cxOf, tRet, tAndV, tOrV, tNotV, tCB, tCons, tNil, tVar, tC, tOp, tUn, tTest, tB, tIf, tIfS, tSeq, tAsg, tAnd, tOr, tNot, gName, tNext, tCall, tChain, rI, rI0, rEq, rNe, rGcd, rU, tM1, tM0, tSl, tFmtB, tJs, tPart, tNoPart, gTup, gCons, gNil, gSub, tTup, tLst, tPar, L2.rI, List.map_cons, List.map_nil, List.length_cons, List.length_nil, List.cons_append, List.nil_append, List.append_nil, List.getElem?_cons_zero, List.getElem?_cons_succ, List.set_cons_zero, List.set_cons_succ, Option.some.injEq, exists_eq_left, exists_eq_left', exists_eq_right, exists_and_left, exists_and_right, List.cons.injEq, and_true, true_and, V.int.injEq, V.str.injEq, V.bl.injEq, V.ref.injEq, List.replicate, Nat.reduceAdd, Nat.reduceSub, reduceCtorEq, false_and, and_false, if_true, if_false, Bool.false_eq_true, Bool.not_true, Bool.not_false, decide_eq_true_eq]
    refine ⟨a.length, len_S (Nat.le_trans hl (by rw [sizeLine_eq]; decide)), ?_⟩
    rw [if_neg (by omega)]
    exact q
def keepW : V → Option V
  | .str y => if y = "" then none else some (.str y)
  | _ => none
theorem sc24 : FnScope ["line", "word"] ["line"] (defScope (top 23)) := fnScope_by (by decide +kernel)
def spWords : Sp := fun vs H Q _ => ∃ a : List Nat, vs = [.str (S a)] ∧ a.length ≤ 3000000 ∧ ∀ H' t, Same H H' → H t = none → H' t = some (.lst (((TL.spl [32] 0 [] a).filter P20.ne).map fun w => V.str (S w))) → Q (.ref t) H'
theorem ok_words (m : Mg K mg) (F : Fn K "words_of" 23 f fd) (g : mg "words_of" = some (.ref f)) : Cal P w K mg base 1 "words_of" spWords [] := by
  have sc := sc24
  refine calD F g sc (fun _ _ _ _ _ _ us hl => match us, hl with | [_], _ => rfl) ?_ fun cdv A outer s H vs Q E hr h => ?_
  · rintro vs H Q E ⟨a, rfl, _⟩
    rfl
  · obtain ⟨a, rfl, hl, q⟩ := h
    refine ⟨_, pss_one (ps_ret (pe_lcW (own := [("word", 1)]) (g := gName 1) (.inl rfl) sc.nd (pe_split (pv 0) pe_str) (blkOk_by (own := [("word", 1)]) (N := ["line", "word"]) (sc := defScope (top 23)) (by decide +kernel)) (fun _ _ _ _ _ => pg_name (i := 1) sc.nd rfl (.inl rfl))
      (fun _ _ _ _ _ => (pts_one (pt_cmpR op_ne (pv 1) pe_str (nomark _)))) (fun _ _ _ _ _ => pv 1))), ?_⟩
    simp only [L2.start, cxOf, tRet, tAndV, tOrV, tNotV, tCB, tCons, tNil, tVar, tC, tOp, tUn, tTest, tB, tIf, tIfS, tSeq, tAsg, tAnd, tOr, tNot, gName, tNext, tCall, tChain, rI, rI0, rEq, rNe, rGcd, rU, tM1, tM0, tSl, tFmtB, tJs, tPart, tNoPart, gTup, gCons, gNil, gSub, tTup, tLst, tPar, L2.rI, List.map_cons, List.map_nil, List.length_cons, List.length_nil, List.cons_append, List.nil_append, List.append_nil, List.getElem?_cons_zero, List.getElem?_cons_succ, List.set_cons_zero, List.set_cons_succ, Option.some.injEq, exists_eq_left, exists_eq_left', exists_eq_right, exists_and_left, exists_and_right, List.cons.injEq, and_true, true_and, V.int.injEq, V.str.injEq, V.bl.injEq, V.ref.injEq, List.replicate, Nat.reduceAdd, Nat.reduceSub, reduceCtorEq, false_and, and_false, if_true, if_false, Bool.false_eq_true, Bool.not_true, Bool.not_false, decide_eq_true_eq, tLcW]
    have e32 : (" " : Str) = S [32] := by decide +kernel
    rw [e32]
    refine ⟨⟨_, rfl⟩, by rw [S_len]; rfl, by rw [S_len, sizeLine_eq]; omega, fun p hp => ?_⟩
    rw [SX.split_S (by simp) (by decide)]
    refine ⟨p, rfl, _, SqL.of upd_same, keepW, fun D acc y hD hy => ?_, fun D hD => ?_⟩
    · obtain ⟨y', hy', rfl⟩ := List.mem_map.mp hy
      refine ⟨rfl, .str y', rfl, rfl, ?_⟩
      show (match (if y' = "" then none else some (V.str y')) with | none => _ | some z => _)
      by_cases h : y' = ""
      · rw [if_pos h]
        simp [h]
      · rw [if_neg h]
        exact ⟨by simp [h], rfl⟩
    · have e : List.filterMap keepW (List.map V.str (List.map S (TL.spl [32] 0 [] a))) = ((TL.spl [32] 0 [] a).filter P20.ne).map fun w => V.str (S w) := by
        rw [List.map_map, List.filterMap_map]
        induction TL.spl [32] 0 [] a with
        | nil => rfl
        | cons w r ih =>
          rw [List.filterMap_cons, List.filter_cons]
          by_cases h : w = []
          · subst h
            rw [if_neg (by simp [P20.ne])]
            exact ih
          · have h2 : S w ≠ "" := fun z => h (SX.S_inj (show S w = S [] from z.trans (by decide +kernel)))
            rw [if_pos (by simp [P20.ne, h]), show (keepW ∘ (V.str ∘ S)) w = some (V.str (S w)) from if_neg h2, List.map_cons]
            show _ :: _ = _ :: _
            rw [ih]
      exact q _ D ((same_new hp).trans (same_new hD)) ((same_new hp).free hD) (by rw [← e]; exact upd_same)
end
end W20

set_option Elab.async false
set_option linter.all false
set_option maxRecDepth 100000
set_option maxHeartbeats 4000000
/-! B20: texts into words; values and names -/
namespace W20
open PySem PySem.Spec PyProof.Rows L2 Lay
open SX (S S_len S_cat S_tl)
open C8 (Cal pe_c pe_gc fnScope_by E0)
theorem pet_c {X : Cx} {k j : Nat} {x : Str} {sp : Sp} {p pos : Pos} {e : Expr} {es : List Expr} {t : TA} (c : Cal X.prog X.w X.K X.mg X.base k x sp []) (hr : Room j X.A) (hk : k ≤ j) (hg : Gl X x) (ha : PAT X (e :: es) t)
    (hdb : (x == ("__debug__" : Str)) = false := by decide) (he : starEach (e :: es) X.env = (false, eval e X.env) :: starEach es X.env := by rfl) (hpl : (backTo pos (starEach es X.env)).any (·.1) = false := by rfl) :
    PET X (.Call (.Name x p) (e :: es) [] pos) (tCallS sp (fun _ => C8.E0) t) := by
  obtain ⟨f, fd, ps, ds, F, hm, kp, b, d⟩ := c.ex
  cases d
  exact pet_call (ds := []) (dvs := []) F (hr.mono hk) hg hm kp b (fun _ _ _ _ _ _ _ h => h.elim) ha hdb he hpl
theorem repl_S {a y z : List Nat} (h : 1 ≤ y.length) : Txt.replace (S a) (S y) (S z) = S (StrLaws.replL y z a) := by
  have e := StrLaws.replace_list (x := S a) (y := S y) (z := S z) (by rw [S_len]; exact h)
  have e2 := S_tl (Txt.replace (S a) (S y) (S z))
  rw [← e2, e]
theorem inV_S (w : List Nat) (rs : List Str) : inV (V.str (S w)) (rs.map V.str) = decide (w ∈ rs.map fun x => x.cps.toList) := by
  unfold inV
  induction rs with
  | nil => rfl
  | cons x r ih =>
    rw [List.map_cons, List.any_cons, ih, List.map_cons]
    have e : eqV (V.str x) (V.str (S w)) = decide (w = x.cps.toList) := by
      show (x == S w) = _
      rw [Bool.eq_iff_iff, beq_iff_eq, decide_eq_true_eq]
      exact ⟨fun h => by rw [h], fun h => by rw [h, S_tl]⟩
    rw [e, ← Bool.decide_or]
    congr 1
    rw [List.mem_cons]
theorem sub_len {c a b d : Nat} : ∀ {x : List Nat}, (P20.sub c [a, b, d] x).length ≤ 3 * x.length
  | [] => Nat.le_refl _
  | e :: r => by
    have ih := sub_len (c := c) (a := a) (b := b) (d := d) (x := r)
    have ee : P20.sub c [a, b, d] (e :: r) = (if e = c then [a, b, d] else [e]) ++ P20.sub c [a, b, d] r := rfl
    rw [ee, List.length_append, List.length_cons]
    by_cases h : e = c
    · rw [if_pos h]
      show 3 + _ ≤ _
      omega
    · rw [if_neg h]
      show 1 + _ ≤ _
      omega
section
variable {P : Program} {w : World} {K : PySem.W.Frag} {mg : Str → Option Value} {base : Heap} {f : Addr} {fd : FuncData}
theorem sc25 : FnScope ["text"] ["text"] (defScope (top 24)) := fnScope_by (by decide +kernel)
/-- a list of words at t -/
def wordsV (ws : List P20.Wd) : HO := .lst (ws.map fun w => V.str (S w))
def spTW : Sp := fun vs H Q _ => ∃ a : List Nat, vs = [.str (S a)] ∧ a.length ≤ 200000 ∧ ∀ H' t, Same H H' → H t = none → H' t = some (wordsV (P20.words a)) → Q (.ref t) H'
theorem ok_tree_words (m : Mg K mg) (c_words_of : Cal P w K mg base 1 "words_of" spWords []) (F : Fn K "tree_words" 24 f fd) (g : mg "tree_words" = some (.ref f)) : Cal P w K mg base 2 "tree_words" spTW [] := by
  have sc := sc25
  refine calT F g sc (by decide +kernel) (by decide) (fun _ _ _ _ _ _ us hl => match us, hl with | [_], _ => rfl) ?_ fun cdv A outer s H vs Q E hr h => ?_
  · rintro vs H Q E ⟨a, rfl, _⟩
    rfl
  · obtain ⟨a, rfl, hl, q⟩ := h
    refine ⟨_, CwR.psst_one (CwR.pst_ret (pet_c c_words_of hr (by decide) (by rfl) (pat_cons (CwR.pet_replT (CwR.pet_replC (pv 0))) pat_nil))), ?_⟩
    simp only [L2.start, cxOf, tRet, tAndV, tOrV, tNotV, tCB, tCons, tNil, tVar, tC, tOp, tUn, tTest, tB, tIf, tIfS, tSeq, tAsg, tAnd, tOr, tNot, gName, tNext, tCall, tChain, rI, rI0, rEq, rNe, rGcd, rU, tM1, tM0, tSl, tFmtB, tJs, tPart, tNoPart, gTup, gCons, gNil, gSub, tTup, tLst, tPar, L2.rI, List.map_cons, List.map_nil, List.length_cons, List.length_nil, List.cons_append, List.nil_append, List.append_nil, List.getElem?_cons_zero, List.getElem?_cons_succ, List.set_cons_zero, List.set_cons_succ, Option.some.injEq, exists_eq_left, exists_eq_left', exists_eq_right, exists_and_left, exists_and_right, List.cons.injEq, and_true, true_and, V.int.injEq, V.str.injEq, V.bl.injEq, V.ref.injEq, List.replicate, Nat.reduceAdd, Nat.reduceSub, reduceCtorEq, false_and, and_false, if_true, if_false, Bool.false_eq_true, Bool.not_true, Bool.not_false, decide_eq_true_eq, tCallS, CwR.tReplC, spWords]
    have ey : ("(" : Str) = S [40] := by decide +kernel
    have ez : (" ( " : Str) = S [32, 40, 32] := by decide +kernel
    have fy : (")" : Str) = S [41] := by decide +kernel
    have fz : (" ) " : Str) = S [32, 41, 32] := by decide +kernel
    rw [ey, ez, fy, fz]
    rw [repl_S (by decide), repl_S (by decide)]
    have l1 : (StrLaws.replL [40] [32, 40, 32] a).length ≤ 3 * a.length := by rw [P20.repl_sub]; exact sub_len
    have l2 : (StrLaws.replL [41] [32, 41, 32] (StrLaws.replL [40] [32, 40, 32] a)).length ≤ 3 * (StrLaws.replL [40] [32, 40, 32] a).length := by rw [P20.repl_sub 41]; exact sub_len
    have l3 : ∀ a b c : Nat, ([a, b, c] : List Nat).length = 3 := fun _ _ _ => rfl
    rw [S_len, S_len, S_len, S_len, l3, l3]
    refine ⟨by omega, by omega, _, rfl, by omega, fun H' t sm ht e => q H' t sm ht ?_⟩
    rw [P20.prog_words] at e
    exact e
/-! values and names -/
def SIGNL : List Nat := ("abcdefghijklmnopqrstuvwxyz0123456789" : Str).cps.toList
def LETL : List Nat := ("abcdefghijklmnopqrstuvwxyz" : Str).cps.toList
def RESL : List (List Nat) := W20.reserved.map fun x => x.cps.toList
def valueB (w : List Nat) : Bool := decide (1 ≤ w.length ∧ w.length ≤ 8) && w.all fun c => decide (c ∈ SIGNL)
def nameB (w : List Nat) : Bool := valueB w && ((match w with | c :: _ => decide (c ∈ LETL) | [] => false) && !decide (w ∈ RESL))
theorem name_of {w : List Nat} (h : nameB w = true) : P20.Name w := by
  unfold nameB valueB at h
  simp only [Bool.and_eq_true, decide_eq_true_eq, List.all_eq_true] at h
  obtain ⟨⟨⟨h1, _⟩, h2⟩, _⟩ := h
  refine ⟨fun e => by rw [e] at h1; exact absurd h1 (by decide), fun c hc => ?_⟩
  have key : ∀ c ∈ SIGNL, P20.Sign c := by
    have : SIGNL.all (fun c => decide (c ≠ 32) && (decide (c ≠ 40) && decide (c ≠ 41))) = true := by decide +kernel
    intro c hc
    have := List.all_eq_true.mp this c hc
    simpa [P20.Sign] using this
  exact key c (h2 c hc)
theorem sc26 : FnScope ["word", "sign"] ["word"] (defScope (top 25)) := fnScope_by (by decide +kernel)
def spVal (B : List Nat → Bool) : Sp := fun vs H Q _ => ∃ a : List Nat, vs = [.str (S a)] ∧ a.length ≤ 1000000 ∧ Q (.bl (B a)) H
theorem ok_is_value (m : Mg K mg) (F : Fn K "is_value" 25 f fd) (g : mg "is_value" = some (.ref f)) : Cal P w K mg base 1 "is_value" (spVal valueB) [] := by
  have sc := sc26
  refine calD F g sc (fun _ _ _ _ _ _ us hl => match us, hl with | [_], _ => rfl) ?_ fun cdv A outer s H vs Q E hr h => ?_
  · rintro vs H Q E ⟨a, rfl, _⟩
    rfl
  · obtain ⟨a, rfl, hl, q⟩ := h
    refine ⟨_, (pss_cons (ps_if (pt_not (pt_chain op_le op_le pe_int (pe_callB call_len (by rfl) m.len_ boot_len (pa_cons (pv 0) pa_nil)) (pe_gc (v := .int 8) (by rfl) m.mostSigns)))
        (pss_one (ps_ret pe_bl))
        pss_nil)
      (pss_cons (ps_for pown rfl (pi_str (pv 0)) (pg_name (i := 1) sc.nd rfl (.inl rfl))
        (pss_one (ps_if (pt_cmpR op_notIn_sign (pv 1) (pe_gc (v := .str "abcdefghijklmnopqrstuvwxyz0123456789") rfl m.signs) rfl)
          (pss_one (ps_ret pe_bl))
          pss_nil)))
      (pss_one (ps_ret pe_bl)))), ?_⟩
    simp only [L2.start, cxOf, tRet, tAndV, tOrV, tNotV, tCB, tCons, tNil, tVar, tC, tOp, tUn, tTest, tB, tIf, tIfS, tSeq, tAsg, tAnd, tOr, tNot, gName, tNext, tCall, tChain, rI, rI0, rEq, rNe, rGcd, rU, tM1, tM0, tSl, tFmtB, tJs, tPart, tNoPart, gTup, gCons, gNil, gSub, tTup, tLst, tPar, L2.rI, List.map_cons, List.map_nil, List.length_cons, List.length_nil, List.cons_append, List.nil_append, List.append_nil, List.getElem?_cons_zero, List.getElem?_cons_succ, List.set_cons_zero, List.set_cons_succ, Option.some.injEq, exists_eq_left, exists_eq_left', exists_eq_right, exists_and_left, exists_and_right, List.cons.injEq, and_true, true_and, V.int.injEq, V.str.injEq, V.bl.injEq, V.ref.injEq, List.replicate, Nat.reduceAdd, Nat.reduceSub, reduceCtorEq, false_and, and_false, if_true, if_false, Bool.false_eq_true, Bool.not_true, Bool.not_false, decide_eq_true_eq]
    refine ⟨a.length, len_S (Nat.le_trans hl (by rw [sizeLine_eq]; decide)), ?_⟩
    by_cases h1 : (1 : Int) ≤ (a.length : Int)
    · rw [if_pos h1]
      by_cases h2 : (a.length : Int) ≤ 8
      · rw [if_neg (by simp [h2])]
        have ev : valueB a = a.all fun c => decide (c ∈ SIGNL) := by
          unfold valueB
          rw [decide_eq_true (show 1 ≤ a.length ∧ a.length ≤ 8 from ⟨by omega, by omega⟩), Bool.true_and]
        refine for_str_at (a := a) (H1 := H) (fun R k => ⟨_, rfl, k⟩) ⟨fun i σ' H' => H' = H ∧ (∃ y, σ' = [some (.str (S a)), y]) ∧ ∀ j, j < i → ∀ c, a[j]? = some c → c ∈ SIGNL, ⟨rfl, ⟨none, rfl⟩, fun j hj => absurd hj (Nat.not_lt_zero _)⟩, ?_, ?_⟩
        · rintro i c σ' H' hc ⟨rfl, ⟨y, rfl⟩, hP⟩
          simp only [L2.start, cxOf, tRet, tAndV, tOrV, tNotV, tCB, tCons, tNil, tVar, tC, tOp, tUn, tTest, tB, tIf, tIfS, tSeq, tAsg, tAnd, tOr, tNot, gName, tNext, tCall, tChain, rI, rI0, rEq, rNe, rGcd, rU, tM1, tM0, tSl, tFmtB, tJs, tPart, tNoPart, gTup, gCons, gNil, gSub, tTup, tLst, tPar, L2.rI, List.map_cons, List.map_nil, List.length_cons, List.length_nil, List.cons_append, List.nil_append, List.append_nil, List.getElem?_cons_zero, List.getElem?_cons_succ, List.set_cons_zero, List.set_cons_succ, Option.some.injEq, exists_eq_left, exists_eq_left', exists_eq_right, exists_and_left, exists_and_right, List.cons.injEq, and_true, true_and, V.int.injEq, V.str.injEq, V.bl.injEq, V.ref.injEq, List.replicate, Nat.reduceAdd, Nat.reduceSub, reduceCtorEq, false_and, and_false, if_true, if_false, Bool.false_eq_true, Bool.not_true, Bool.not_false, decide_eq_true_eq]
          refine ⟨c, rfl, ?_⟩
          by_cases hd : c ∈ SIGNL
          · rw [if_neg (by rw [decide_eq_true (show c ∈ (Str.ofString "abcdefghijklmnopqrstuvwxyz0123456789").cps.toList from hd)]; decide)]
            refine ⟨⟨_, rfl⟩, fun j hj c' hc' => ?_⟩
            by_cases ej : j = i
            · subst ej
              rw [hc] at hc'
              cases hc'
              exact hd
            · exact hP j (by omega) c' hc'
          · rw [if_pos (by rw [decide_eq_false (show ¬ c ∈ (Str.ofString "abcdefghijklmnopqrstuvwxyz0123456789").cps.toList from hd)]; decide)]
            rw [ev, List.all_eq_false.mpr ⟨c, List.mem_of_getElem? hc, by simp [hd]⟩] at q
            exact q
        · rintro σ' H' ⟨rfl, ⟨y, rfl⟩, hP⟩
          rw [ev, List.all_eq_true.mpr fun c hc => by
            obtain ⟨j, hj, e⟩ := List.mem_iff_getElem.mp hc
            exact decide_eq_true (hP j hj c (by rw [List.getElem?_eq_getElem hj, e]))] at q
          exact q
      · rw [if_pos (by simp [h2])]
        have ev : valueB a = false := by
          unfold valueB
          rw [decide_eq_false (fun z : 1 ≤ a.length ∧ a.length ≤ 8 => h2 (by omega)), Bool.false_and]
        rw [ev] at q
        exact q
    · rw [if_neg h1]
      have ev : valueB a = false := by
        unfold valueB
        rw [decide_eq_false (fun z : 1 ≤ a.length ∧ a.length ≤ 8 => h1 (by omega)), Bool.false_and]
      rw [ev] at q
      exact q
theorem sc27 : FnScope ["word"] ["word"] (defScope (top 26)) := fnScope_by (by decide +kernel)
theorem ok_is_name (m : Mg K mg) (c_is_value : Cal P w K mg base 1 "is_value" (spVal valueB) []) (F : Fn K "is_name" 26 f fd) (g : mg "is_name" = some (.ref f)) : Cal P w K mg base 2 "is_name" (spVal nameB) [] := by
  have sc := sc27
  refine calD F g sc (fun _ _ _ _ _ _ us hl => match us, hl with | [_], _ => rfl) ?_ fun cdv A outer s H vs Q E hr h => ?_
  · rintro vs H Q E ⟨a, rfl, _⟩
    rfl
  · obtain ⟨a, rfl, hl, q⟩ := h
    refine ⟨_, (pss_one (ps_ret (pe_and (pe_c c_is_value hr (by decide) (by rfl) (pa_cons (pv 0) pa_nil)) (pe_and (pe_cmpR op_in_sign (pe_ix ix_str (pv 0) pe_int (fun _ _ => rfl)) (pe_gc (v := .str "abcdefghijklmnopqrstuvwxyz") rfl m.letters) rfl) (pe_one (pe_cmpR op_notIn_seq (pv 0) (pe_gc (v := .ref (He.ga K "RESERVED")) rfl ⟨_, m.reserved, rfl⟩) (by rfl))))))), ?_⟩
    simp only [L2.start, cxOf, tRet, tAndV, tOrV, tNotV, tCB, tCons, tNil, tVar, tC, tOp, tUn, tTest, tB, tIf, tIfS, tSeq, tAsg, tAnd, tOr, tNot, gName, tNext, tCall, tChain, rI, rI0, rEq, rNe, rGcd, rU, tM1, tM0, tSl, tFmtB, tJs, tPart, tNoPart, gTup, gCons, gNil, gSub, tTup, tLst, tPar, L2.rI, List.map_cons, List.map_nil, List.length_cons, List.length_nil, List.cons_append, List.nil_append, List.append_nil, List.getElem?_cons_zero, List.getElem?_cons_succ, List.set_cons_zero, List.set_cons_succ, Option.some.injEq, exists_eq_left, exists_eq_left', exists_eq_right, exists_and_left, exists_and_right, List.cons.injEq, and_true, true_and, V.int.injEq, V.str.injEq, V.bl.injEq, V.ref.injEq, List.replicate, Nat.reduceAdd, Nat.reduceSub, reduceCtorEq, false_and, and_false, if_true, if_false, Bool.false_eq_true, Bool.not_true, Bool.not_false, decide_eq_true_eq, spVal]
    refine ⟨a, rfl, hl, ?_⟩
    by_cases hv : valueB a = true
    · rw [if_pos hv]
      have h1 : 1 ≤ a.length := by
        unfold valueB at hv
        simp only [Bool.and_eq_true, decide_eq_true_eq] at hv
        exact hv.1.1
      obtain ⟨c, r, rfl⟩ : ∃ c r, a = c :: r := by
        cases a with
        | nil => exact absurd h1 (by decide)
        | cons c r => exact ⟨c, r, rfl⟩
      refine ⟨_, 0, c, rfl, rfl, by rw [S_len, sizeLine_eq]; omega, at_zero, ?_⟩
      refine ⟨c, rfl, ?_⟩
      by_cases hc : c ∈ LETL
      · rw [if_pos (show c ∈ (Str.ofString "abcdefghijklmnopqrstuvwxyz").cps.toList from hc)]
        refine ⟨_, W20.reserved.map V.str, rfl, .inr (m.reservedT _), rfl, by decide +kernel, ?_⟩
        have e : (if true = true then !inV (V.str (S (c :: r))) (W20.reserved.map V.str) else inV (V.str (S (c :: r))) (W20.reserved.map V.str)) = nameB (c :: r) := by
          rw [if_pos rfl]
          unfold nameB
          rw [hv, Bool.true_and, show (match c :: r with | c :: _ => decide (c ∈ LETL) | [] => false) = true from decide_eq_true hc, Bool.true_and]
          congr 1
          exact inV_S _ _
        rw [e]
        exact q
      · rw [if_neg (show ¬ c ∈ (Str.ofString "abcdefghijklmnopqrstuvwxyz").cps.toList from hc)]
        have e : nameB (c :: r) = false := by
          unfold nameB
          rw [show (match c :: r with | c :: _ => decide (c ∈ LETL) | [] => false) = false from decide_eq_false hc, Bool.false_and, Bool.and_false]
        rw [e] at q
        exact q
    · rw [if_neg hv]
      have e : nameB a = false := by
        unfold nameB
        rw [show valueB a = false by simpa using hv, Bool.false_and]
      rw [e] at q
      exact q
end
end W20

set_option Elab.async false
set_option linter.all false
/-! S20: tree_halves runs through a tree's words -/
namespace P20
open Tr
def joinT (l r : List Nat) : List Nat := 40 :: (l ++ 32 :: (r ++ [41]))
/-- each word finds what it asks for: a pair two texts, a text a place of its own -/
def Fits (B : Nat) : List Wd → List (List Nat) × List Ent → Prop
  | [], _ => True
  | w :: ws, s => (w = [40] ∨ (Plain w ∧ (∀ e ∈ s.2, e.1 ≠ w) ∧ w.length ≤ B) ∨ (w = [41] ∧ ∃ st l r, s.1 = st ++ [l] ++ [r] ∧ (∀ e ∈ s.2, e.1 ≠ joinT l r) ∧ (joinT l r).length ≤ B)) ∧ Fits B ws (hv s w)
theorem hv_open (s : List (List Nat) × List Ent) : hv s [40] = s := rfl
theorem hv_plain {w : Wd} (h : Plain w) (s : List (List Nat) × List Ent) : hv s w = (s.1 ++ [w], s.2 ++ [(w, none)]) := by
  unfold hv
  rw [if_neg h.2, if_pos h.1]
theorem hv_close {st : List (List Nat)} {l r : List Nat} {en : List Ent} : hv (st ++ [l] ++ [r], en) [41] = (st ++ [joinT l r], en ++ [(joinT l r, some (l, r))]) := by
  unfold hv
  rw [if_pos rfl]
  simp [joinT]
theorem spell_sub : ∀ {t n : Tr}, n ∈ nodes t → (spell n).length ≤ (spell t).length := fun {t n} h => by
  obtain ⟨p, q, e⟩ := spell_in h
  rw [e]
  simp only [List.length_append]
  omega
theorem self_mem : ∀ t : Tr, t ∈ nodes t
  | leaf w => List.mem_singleton.mpr rfl
  | node l r => List.mem_append_right _ (List.mem_singleton.mpr rfl)
theorem fits_toks {B : Nat} : ∀ {t : Tr} {st : List (List Nat)} {en : List Ent} {ws : List Wd}, Ok t → (leaves t).Nodup → (∀ n ∈ nodes t, ∀ e ∈ en, e.1 ≠ spell n) → (spell t).length ≤ B → Fits B ws (st ++ [spell t], en ++ (nodes t).map ent) → Fits B (toks t ++ ws) (st, en)
  | leaf w, st, en, ws, ok, nd, fr, hl, h => by
    refine ⟨.inr (.inl ⟨ok.name.plain, fr (leaf w) (self_mem _), hl⟩), ?_⟩
    rw [hv_plain ok.name.plain]
    exact h
  | node l r, st, en, ws, ok, nd, fr, hl, h => by
    have nl : (leaves l).Nodup := (List.nodup_append.mp nd).1
    have nr : (leaves r).Nodup := (List.nodup_append.mp nd).2.1
    have key : ∀ {n m : Tr}, n ∈ nodes (node l r) → m ∈ nodes (node l r) → n ≠ m → (ent n).1 ≠ spell m := fun hn hm ne e => ne (spell_inj (ok_sub ok hn) (ok_sub ok hm) (by rw [← ent_key]; exact e))
    have inl : ∀ {n}, n ∈ nodes l → n ∈ nodes (node l r) := fun h => List.mem_append_left _ (List.mem_append_left _ h)
    have inr : ∀ {n}, n ∈ nodes r → n ∈ nodes (node l r) := fun h => List.mem_append_left _ (List.mem_append_right _ h)
    have nn := nodes_nodup nd
    have nself : ∀ {n}, n ∈ nodes l ++ nodes r → n ≠ node l r := fun {n} hn e => (List.nodup_append.mp (show ((nodes l ++ nodes r) ++ [node l r]).Nodup from nn)).2.2 n hn (node l r) (List.mem_singleton.mpr rfl) e
    show Fits B (([40] :: (toks l ++ (toks r ++ [[41]]))) ++ ws) (st, en)
    rw [show ([40] :: (toks l ++ (toks r ++ [[41]]))) ++ ws = [40] :: (toks l ++ (toks r ++ ([41] :: ws))) by simp]
    refine ⟨.inl rfl, ?_⟩
    rw [hv_open]
    refine fits_toks ok.l nl (fun n hn e he => fr n (inl hn) e he) (Nat.le_trans (spell_sub (inl (self_mem l))) hl) ?_
    refine fits_toks ok.r nr (fun n hn e he => ?_) (Nat.le_trans (spell_sub (inr (self_mem r))) hl) ?_
    · rcases List.mem_append.mp he with he | he
      · exact fr n (inr hn) e he
      · obtain ⟨m, hm, rfl⟩ := List.mem_map.mp he
        exact key (inl hm) (inr hn) fun e => not_both nd hm (e ▸ hn)
    · refine ⟨.inr (.inr ⟨rfl, st, spell l, spell r, rfl, fun e he => ?_, hl⟩), ?_⟩
      · show e.1 ≠ spell (node l r)
        rcases List.mem_append.mp he with he | he
        · rcases List.mem_append.mp he with he | he
          · exact fr (node l r) (self_mem _) e he
          · obtain ⟨m, hm, rfl⟩ := List.mem_map.mp he
            exact key (inl hm) (self_mem _) (nself (List.mem_append_left _ hm))
        · obtain ⟨m, hm, rfl⟩ := List.mem_map.mp he
          exact key (inr hm) (self_mem _) (nself (List.mem_append_right _ hm))
      · rw [hv_close]
        have e : en ++ (nodes (node l r)).map ent = en ++ (nodes l).map ent ++ (nodes r).map ent ++ [(joinT (spell l) (spell r), some (spell l, spell r))] := by
          simp [nodes, ent, spell, joinT]
        rw [e] at h
        exact h
theorem fits {B : Nat} {t : Tr} (ok : Ok t) (nd : (leaves t).Nodup) (hl : (spell t).length ≤ B) : Fits B (toks t) ([], []) := by
  have := fits_toks (st := []) (en := []) (ws := []) ok nd (fun _ _ _ he => by cases he) hl trivial
  rw [List.append_nil] at this
  exact this
end P20

set_option Elab.async false
set_option linter.all false
set_option maxRecDepth 100000
set_option maxHeartbeats 4000000
/-! D20: tree_halves -/
namespace W20
open PySem PySem.Spec PyProof.Rows L2 Lay
open SX (S S_len S_cat S_tl)
open C8 (Cal pe_c pe_gc fnScope_by E0)
section
variable {P : Program} {w : World} {K : PySem.W.Frag} {mg : Str → Option Value} {base : Heap} {f : Addr} {fd : FuncData}
theorem sc31 : FnScope ["words", "halves", "stack", "word", "right", "left"] ["words"] (defScope (top 29)) := fnScope_by (by decide +kernel)
/-- an entry of the halves: None, or a pair of texts -/
def HalfAt (H : Hp) : Option (List Nat × List Nat) → V → Prop
  | none => fun v => v = .non
  | some (l, r) => fun v => ∃ t, v = .ref t ∧ H t = some (.tup [.str (S l), .str (S r)])
/-- the dict of the halves -/
def HalvesAt (H : Hp) (a : Addr) (es : List P20.Ent) : Prop := ∃ kvs : List (Key × V), H a = some (.dK kvs) ∧ kvs.map (·.1) = es.map (fun e => (.inr (S e.1) : Key)) ∧ ∀ (i : Nat) e kv, es[i]? = some e → kvs[i]? = some kv → HalfAt H e.2 kv.2
theorem HalfAt.mono {H H' : Hp} {x : Option (List Nat × List Nat)} {v : V} (h : HalfAt H x v) (k : ∀ t l r, H t = some (.tup [.str (S l), .str (S r)]) → H' t = some (.tup [.str (S l), .str (S r)])) : HalfAt H' x v := by
  match x, h with
  | none, h => exact h
  | some (l, r), ⟨t, e, ht⟩ => exact ⟨t, e, k t l r ht⟩
theorem HalvesAt.same {H H' : Hp} {a : Addr} {es : List P20.Ent} (h : HalvesAt H a es) (e : Same H H') : HalvesAt H' a es := by
  obtain ⟨kvs, h1, h2, h3⟩ := h
  exact ⟨kvs, e _ _ h1, h2, fun i e' kv g1 g2 => (h3 i e' kv g1 g2).mono fun t l r z => e _ _ z⟩
/-- a list beside the halves is written -/
theorem HalvesAt.lst {H : Hp} {a p : Addr} {es : List P20.Ent} {xs ys : List V} (h : HalvesAt H a es) (hp : H p = some (.lst xs)) : HalvesAt (upd H p (.lst ys)) a es := by
  obtain ⟨kvs, h1, h2, h3⟩ := h
  refine ⟨kvs, by rw [upd_ne (ne_of h1 hp (fun z => by cases z))]; exact h1, h2, fun i e' kv g1 g2 => (h3 i e' kv g1 g2).mono fun t l r z => ?_⟩
  rw [upd_ne (ne_of z hp (fun z => by cases z))]
  exact z
theorem HalvesAt.put {H : Hp} {a : Addr} {es : List P20.Ent} {u : List Nat} {x : Option (List Nat × List Nat)} {v : V} (h : HalvesAt H a es) (fr : ∀ e ∈ es, e.1 ≠ u) (hx : HalfAt H x v) : ∃ kvs, H a = some (.dK kvs) ∧ kvs.length = es.length ∧ HalvesAt (upd H a (.dK (putK kvs (.inr (S u)) v))) a (es ++ [(u, x)]) := by
  obtain ⟨kvs, h1, h2, h3⟩ := h
  have len : kvs.length = es.length := by
    have := congrArg List.length h2
    simpa using this
  have nw : valV kvs (.inr (S u) : Key) = none := by
    unfold valV
    rw [Option.map_eq_none_iff, List.find?_eq_none]
    intro kv hkv
    rw [decide_eq_true_eq]
    intro e
    have hm : kv.1 ∈ es.map (fun e => (.inr (S e.1) : Key)) := by rw [← h2]; exact List.mem_map.mpr ⟨kv, hkv, rfl⟩
    obtain ⟨e', he', e2⟩ := List.mem_map.mp hm
    rw [e] at e2
    exact fr e' he' (SX.S_inj (Sum.inr.inj e2))
  refine ⟨kvs, h1, len, kvs ++ [(.inr (S u), v)], by rw [upd_same, putK_new v nw], by rw [List.map_append, List.map_append, h2]; rfl, ?_⟩
  have keep : ∀ {x v}, HalfAt H x v → HalfAt (upd H a (.dK (putK kvs (.inr (S u)) v))) x v := fun z => z.mono fun t l r q => by
    rw [upd_ne (ne_of q h1 (fun z => by cases z))]
    exact q
  intro i e' kv g1 g2
  have keep2 : ∀ {x w}, HalfAt H x w → HalfAt (upd H a (.dK (putK kvs (.inr (S u)) v))) x w := fun z => z.mono fun t l r q => by
    rw [upd_ne (ne_of q h1 (fun z => by cases z))]
    exact q
  by_cases hi : i < es.length
  · rw [List.getElem?_append_left hi] at g1
    rw [List.getElem?_append_left (by omega)] at g2
    exact keep2 (h3 i e' kv g1 g2)
  · by_cases hi2 : i = es.length
    · subst hi2
      rw [List.getElem?_append_right (Nat.le_refl _), Nat.sub_self] at g1
      rw [List.getElem?_append_right (by omega), len, Nat.sub_self] at g2
      cases g1
      cases g2
      exact keep2 hx
    · rw [List.getElem?_eq_none (by rw [List.length_append, List.length_singleton]; omega)] at g1
      cases g1
theorem js5 {i j : Nat} {σ : L2.St} {H : Hp} {R : Str → Hp → Prop} {l r : List Nat} (hl : σ[i]? = some (some (.str (S l)))) (hr : σ[j]? = some (some (.str (S r)))) (hb : (P20.joinT l r).length ≤ 100000) (k : R (S (P20.joinT l r)) H) :
    tJs [tC (.str "("), tFmtB (tVar i), tC (.str " "), tFmtB (tVar j), tC (.str ")")] Str.empty σ H R := by
  have szl := sizeLine_eq
  have e41 : (")" : Str) = S [41] := by decide +kernel
  have e40 : ("(" : Str) = S [40] := by decide +kernel
  have e32 : (" " : Str) = S [32] := by decide +kernel
  have e0 : Str.empty = S [] := rfl
  rw [e41, e40, e32, e0]
  have hb2 : l.length + r.length + 3 ≤ 100000 := by
    simp only [P20.joinT, List.length_cons, List.length_append, List.length_nil] at hb
    omega
  simp only [tJs, tFmtB, tVar, tC, S_cat, S_len, V.str.injEq, exists_eq_left', List.length_append, List.length_cons, List.length_nil, List.nil_append]
  have fin : S [40] ++ S l ++ S [32] ++ S r ++ S [41] = S (P20.joinT l r) := by
    simp only [S_cat]
    congr 1
    simp [P20.joinT]
  refine ⟨by rw [szl]; omega, _, hl, .inl ⟨S l, rfl, ?_, ?_, ?_, _, hr, .inl ⟨S r, rfl, ?_, ?_, ?_, by rw [fin]; exact k⟩⟩⟩
  all_goals
    simp only [S_cat, S_len, List.length_append, List.length_cons, List.length_nil, szl]
    omega
theorem same_upd {H H' : Hp} {p : Addr} {o : HO} (s : Same H H') (n : H p = none) : Same H (upd H' p o) := fun b u e => by
  rw [upd_ne (ne_of_none e n)]
  exact s _ _ e
def spTH : Sp := fun vs H Q _ => ∃ (t : Addr) (T : P20.Tr), vs = [.ref t] ∧ H t = some (wordsV (P20.toks T)) ∧ P20.Ok T ∧ (P20.leaves T).Nodup ∧ (P20.spell T).length ≤ 100000 ∧ (P20.toks T).length ≤ 100000 ∧
  ∀ H' a, Same H H' → H a = none → HalvesAt H' a ((P20.nodes T).map P20.ent) → Q (.ref a) H'
theorem ok_tree_halves (m : Mg K mg) (dk : DigK K) (F : Fn K "tree_halves" 29 f fd) (g : mg "tree_halves" = some (.ref f)) : Cal P w K mg base 1 "tree_halves" spTH [] := by
  have sc := sc31
  refine calD F g sc (fun _ _ _ _ _ _ us hl => match us, hl with | [_], _ => rfl) ?_ fun cdv A outer s H vs Q E hr h => ?_
  · rintro vs H Q E ⟨t, T, rfl, _⟩
    rfl
  · obtain ⟨t, T, rfl, ht, ok, nd, hB, hT, q⟩ := h
    have room1 : (A.deeper (envOfC "tree_halves" (defScope (top 29)) s.heap.objs.size f cdv)).units + 1 < cLine := by have := hr.un; omega
    refine ⟨_, (pss_cons (ps_set (i := 1) sc.nd rfl (.inl rfl) pe_dnewK)
      (pss_cons (ps_set (i := 2) sc.nd rfl (.inl rfl) (pe_lst pa_nil))
      (pss_cons (ps_for pown rfl (pi_list (pv 0)) (pg_name (i := 3) sc.nd rfl (.inl rfl))
        (pss_one (ps_if (pt_cmpR op_eq (pv 3) pe_str (nomark _))
          (pss_cons (ps_set (i := 4) sc.nd rfl (.inl rfl) (pe_bm0 PySem.F.plainAttrs_list PySem.F.slot_list_pop PySem.F.type_list_pop mt_pop (pv 2)))
          (pss_cons (ps_set (i := 5) sc.nd rfl (.inl rfl) (pe_bm0 PySem.F.plainAttrs_list PySem.F.slot_list_pop PySem.F.type_list_pop mt_pop (pv 2)))
          (pss_cons (ps_expr (pe_bm PySem.F.plainAttrs_list PySem.F.slot_list_append PySem.F.type_list_append mt_append (pv 2) (pa_cons (pe_joined (.cons pe_str (.cons (pe_fmtB rfl dk (pv 5)) (.cons pe_str (.cons (pe_fmtB rfl dk (pv 4)) (.cons pe_str PJ.nil)))))) pa_nil)))
          (pss_one (ps_asg (pe_tup (pa_cons (pv 5) (pa_cons (pv 4) pa_nil))) (pg_sub (pv 1) (pe_ix ix_list (pv 2) (pe_un un_neg pe_int) (fun _ _ => rfl)) (set_dict room1)))))))
          (pss_one (ps_if (pt_cmpR op_ne (pv 3) pe_str (nomark _))
            (pss_cons (ps_expr (pe_bm PySem.F.plainAttrs_list PySem.F.slot_list_append PySem.F.type_list_append mt_append (pv 2) (pa_cons (pv 3) pa_nil)))
            (pss_one (ps_asg pe_non (pg_sub (pv 1) (pv 3) (set_dict room1)))))
            pss_nil)))))
      (pss_one (ps_ret (pv 1)))))), ?_⟩
    have e41 : (")" : Str) = S [41] := by decide +kernel
    have e40 : ("(" : Str) = S [40] := by decide +kernel
    have e32 : (" " : Str) = S [32] := by decide +kernel
    simp only [L2.start, cxOf, tRet, tAndV, tOrV, tNotV, tCB, tCons, tNil, tVar, tC, tOp, tUn, tTest, tB, tSeq, tAsg, tNot, gName, tNext, tCall, tChain, rI, rI0, rEq, rNe, rGcd, rU, tM1, tM0, tSl, tPart, tNoPart, gTup, gCons, gNil, gSub, tTup, tLst, tPar, L2.rI, List.map_cons, List.map_nil, List.length_cons, List.length_nil, List.cons_append, List.nil_append, List.append_nil, List.getElem?_cons_zero, List.getElem?_cons_succ, List.set_cons_zero, List.set_cons_succ, Option.some.injEq, exists_eq_left, exists_eq_left', exists_eq_right, exists_and_left, exists_and_right, List.cons.injEq, and_true, true_and, V.int.injEq, V.str.injEq, V.bl.injEq, V.ref.injEq, List.replicate, Nat.reduceAdd, Nat.reduceSub, reduceCtorEq, false_and, and_false, if_true, if_false, Bool.false_eq_true, Bool.not_true, Bool.not_false, decide_eq_true_eq, exists_false, or_false, false_or, tDNewK]
    refine fun a ha => ⟨small (by decide), fun p hp => ?_⟩
    have nap : a ≠ p := fun z => by rw [← z, upd_same] at hp; cases hp
    have hp0 : H p = none := by rw [upd_ne (Ne.symm nap)] at hp; exact hp
    have szl := sizeLine_eq
    have B : (P20.spell T).length ≤ 100000 := hB
    refine for_list_at (l := t) (xs := (P20.toks T).map fun w => V.str (S w)) (fun R k => ⟨_, rfl, k⟩) (SqL.of ((same_new hp) _ _ ((same_new ha) _ _ ht))) ⟨fun i σ' H' => ∃ (st : List (List Nat)) (en : List P20.Ent) (y3 y4 y5 : Option V), σ' = [some (.ref t), some (.ref a), some (.ref p), y3, y4, y5] ∧ Same H H' ∧ H' p = some (wordsV st) ∧ HalvesAt H' a en ∧
      P20.Fits 100000 ((P20.toks T).drop i) (st, en) ∧ ((P20.toks T).drop i).foldl P20.hv (st, en) = ([P20.spell T], (P20.nodes T).map P20.ent) ∧ en.length ≤ i ∧ st.length ≤ i,
      ⟨[], [], none, none, none, rfl, (same_new ha).trans (same_new hp), upd_same, ⟨[], by rw [upd_ne nap, upd_same], rfl, fun i e kv z _ => by cases z⟩, P20.fits ok nd B, by rw [List.drop_zero, P20.hv_toks ok]; simp, Nat.le_refl _, Nat.le_refl _⟩, ?_, ?_, ?_⟩
    · rintro i σ' H' _ ⟨st, en, y3, y4, y5, rfl, sm, _⟩
      exact SqL.of (sm _ _ ht)
    · rintro i x σ' H' hx ⟨st, en, y3, y4, y5, rfl, sm, hst, hen, fit, fol, l1, l2⟩
      rw [List.getElem?_map] at hx
      obtain ⟨w0, hw, rfl⟩ : ∃ w0, (P20.toks T)[i]? = some w0 ∧ V.str (S w0) = x := by
        cases e : (P20.toks T)[i]? with
        | none => rw [e] at hx; cases hx
        | some w0 => rw [e] at hx; exact ⟨w0, rfl, Option.some.inj hx⟩
      obtain ⟨hi, ew⟩ := List.getElem?_eq_some_iff.mp hw
      have dr : (P20.toks T).drop i = w0 :: (P20.toks T).drop (i + 1) := by rw [List.drop_eq_getElem_cons hi, ew]
      rw [dr] at fit fol
      obtain ⟨case_, fit⟩ := fit
      rw [List.foldl_cons] at fol
      rcases case_ with rfl | ⟨pl, fr, bl⟩ | ⟨rfl, st0, l, r, est, fr, bl⟩
      · simp only [L2.start, cxOf, tRet, tAndV, tOrV, tNotV, tCB, tCons, tNil, tVar, tC, tOp, tUn, tTest, tB, tIf, tIfS, tSeq, tAsg, tAnd, tOr, tNot, gName, tNext, tCall, tChain, rI, rI0, rEq, rNe, rGcd, rU, tM1, tM0, tSl, tPart, tNoPart, gTup, gCons, gNil, gSub, tTup, tLst, tPar, L2.rI, List.map_cons, List.map_nil, List.length_cons, List.length_nil, List.cons_append, List.nil_append, List.append_nil, List.getElem?_cons_zero, List.getElem?_cons_succ, List.set_cons_zero, List.set_cons_succ, Option.some.injEq, exists_eq_left, exists_eq_left', exists_eq_right, exists_and_left, exists_and_right, List.cons.injEq, and_true, true_and, V.int.injEq, V.str.injEq, V.bl.injEq, V.ref.injEq, List.replicate, Nat.reduceAdd, Nat.reduceSub, reduceCtorEq, false_and, and_false, if_true, if_false, Bool.false_eq_true, Bool.not_true, Bool.not_false, decide_eq_true_eq, exists_false, or_false, false_or, tDrop, tBM, tBM0, rAppend, rPop, rSetD]
        rw [e41, e40]
        refine ⟨rfl, ?_⟩
        rw [if_neg (fun z => absurd (SX.S_inj z) (by decide))]
        refine ⟨rfl, ?_⟩
        rw [if_neg (by simp)]
        exact ⟨⟨_, rfl⟩, sm, st, hst, en, hen, fit, fol, by omega, by omega⟩
      · simp only [L2.start, cxOf, tRet, tAndV, tOrV, tNotV, tCB, tCons, tNil, tVar, tC, tOp, tUn, tTest, tB, tIf, tIfS, tSeq, tAsg, tAnd, tOr, tNot, gName, tNext, tCall, tChain, rI, rI0, rEq, rNe, rGcd, rU, tM1, tM0, tSl, tPart, tNoPart, gTup, gCons, gNil, gSub, tTup, tLst, tPar, L2.rI, List.map_cons, List.map_nil, List.length_cons, List.length_nil, List.cons_append, List.nil_append, List.append_nil, List.getElem?_cons_zero, List.getElem?_cons_succ, List.set_cons_zero, List.set_cons_succ, Option.some.injEq, exists_eq_left, exists_eq_left', exists_eq_right, exists_and_left, exists_and_right, List.cons.injEq, and_true, true_and, V.int.injEq, V.str.injEq, V.bl.injEq, V.ref.injEq, List.replicate, Nat.reduceAdd, Nat.reduceSub, reduceCtorEq, false_and, and_false, if_true, if_false, Bool.false_eq_true, Bool.not_true, Bool.not_false, decide_eq_true_eq, exists_false, or_false, false_or, tDrop, tBM, tBM0, rAppend, rPop, rSetD]
        rw [e41, e40]
        refine ⟨rfl, ?_⟩
        rw [if_neg (fun z => pl.2 (SX.S_inj z))]
        refine ⟨rfl, ?_⟩
        rw [if_pos (by simpa using fun z => pl.1 (SX.S_inj z))]
        rw [P20.hv_plain pl] at fit fol
        obtain ⟨kvs, hk, lk, hnew⟩ := (hen.lst hst (ys := st.map (fun w => V.str (S w)) ++ [V.str (S w0)])).put fr (x := none) (v := .non) rfl
        refine ⟨.inl ⟨rfl, _, SqL.of hst⟩, _, hst, by rw [List.length_map, szl]; omega, _, DPut.k (k := .inr (S w0)) hk (by rw [lk, szl]; omega), ⟨_, rfl⟩, same_upd (same_upd sm hp0) ha, st ++ [w0], ?_, _, hnew, fit, fol, by simp; omega, by simp; omega⟩
        rw [upd_ne (Ne.symm nap), upd_same, wordsV, List.map_append]
        rfl
      · subst est
        rw [P20.hv_close] at fit fol
        have hst2 : H' p = some (.lst (st0.map (fun w => V.str (S w)) ++ [V.str (S l)] ++ [V.str (S r)])) := by
          rw [hst, wordsV, List.map_append, List.map_append]
          rfl
        have l3 : st0.length + 2 ≤ i := by simpa using l2
        simp only [L2.start, cxOf, tRet, tAndV, tOrV, tNotV, tCB, tCons, tNil, tVar, tC, tOp, tUn, tTest, tB, tIf, tIfS, tSeq, tAsg, tAnd, tOr, tNot, gName, tNext, tCall, tChain, rI, rI0, rEq, rNe, rGcd, rU, tM1, tM0, tSl, tPart, tNoPart, gTup, gCons, gNil, gSub, tTup, tLst, tPar, L2.rI, List.map_cons, List.map_nil, List.length_cons, List.length_nil, List.cons_append, List.nil_append, List.append_nil, List.getElem?_cons_zero, List.getElem?_cons_succ, List.set_cons_zero, List.set_cons_succ, Option.some.injEq, exists_eq_left, exists_eq_left', exists_eq_right, exists_and_left, exists_and_right, List.cons.injEq, and_true, true_and, V.int.injEq, V.str.injEq, V.bl.injEq, V.ref.injEq, List.replicate, Nat.reduceAdd, Nat.reduceSub, reduceCtorEq, false_and, and_false, if_true, if_false, Bool.false_eq_true, Bool.not_true, Bool.not_false, decide_eq_true_eq, exists_false, or_false, false_or, tDrop, tBM, tBM0, rAppend, rPop, rSetD]
        rw [e41]
        refine ⟨rfl, ?_⟩
        rw [if_pos rfl]
        refine ⟨.inl ⟨rfl, _, SqL.of hst2⟩, _, hst2, V.str (S r), by simp, .inl ⟨rfl, _, SqL.of upd_same⟩, _, upd_same, V.str (S l), by simp, .inl ⟨rfl, _, SqL.of upd_same⟩, ?_⟩
        have dl : (st0.map (fun w => V.str (S w)) ++ [V.str (S l)] ++ [V.str (S r)]).dropLast.dropLast = st0.map (fun w => V.str (S w)) := by
          rw [List.dropLast_concat, List.dropLast_concat]
        rw [upd_upd, dl]
        refine js5 rfl rfl bl ?_
        refine ⟨_, upd_same, by rw [List.length_map, szl]; omega, small (by decide), fun t2 h2 => ?_⟩
        rw [upd_upd] at h2 ⊢
        have hw2 : wordsV (st0 ++ [P20.joinT l r]) = .lst (st0.map (fun w => V.str (S w)) ++ [V.str (S (P20.joinT l r))]) := by
          rw [wordsV, List.map_append]
          rfl
        rw [← hw2] at h2 ⊢
        have ntp : t2 ≠ p := fun z => by rw [z, upd_same] at h2; cases h2
        have hs3 : (upd (upd H' p (wordsV (st0 ++ [P20.joinT l r]))) t2 (.tup [V.str (S l), V.str (S r)])) p = some (wordsV (st0 ++ [P20.joinT l r])) := by rw [upd_ne (Ne.symm ntp), upd_same]
        have sm3 : Same H (upd (upd H' p (wordsV (st0 ++ [P20.joinT l r]))) t2 (.tup [V.str (S l), V.str (S r)])) := (same_upd sm hp0).trans (same_new h2)
        have hen3 : HalvesAt (upd (upd H' p (wordsV (st0 ++ [P20.joinT l r]))) t2 (.tup [V.str (S l), V.str (S r)])) a en := (hen.lst hst).same (same_new h2)
        obtain ⟨kvs, hk, lk, hnew⟩ := hen3.put fr (x := some (l, r)) (v := .ref t2) ⟨t2, rfl, upd_same⟩
        refine ⟨p, st0.map (fun w => V.str (S w)) ++ [V.str (S (P20.joinT l r))], -1, V.str (S (P20.joinT l r)), rfl, rfl, SqL.of (by rw [hs3, hw2]), ?_, ?_⟩
        · unfold atI ixN
          rw [if_neg (by decide), if_pos (by rw [List.length_append, List.length_singleton]; omega), List.length_append, List.length_singleton]
          show (st0.map (fun w => V.str (S w)) ++ [V.str (S (P20.joinT l r))])[((-1 : Int) + ((st0.map (fun w => V.str (S w))).length + 1 : Nat)).toNat]? = _
          rw [show ((-1 : Int) + ((st0.map (fun w => V.str (S w))).length + 1 : Nat)).toNat = (st0.map (fun w => V.str (S w))).length by omega, List.getElem?_append_right (Nat.le_refl _), Nat.sub_self]
          rfl
        · refine ⟨_, DPut.k (k := .inr (S (P20.joinT l r))) hk (by rw [lk, szl]; omega), ⟨_, rfl⟩, same_upd sm3 ha, st0 ++ [P20.joinT l r], ?_, _, hnew, fit, fol, by simp; omega, by simp; omega⟩
          rw [upd_ne (Ne.symm nap)]
          exact hs3
    · rintro σ' H' ⟨st, en, y3, y4, y5, rfl, sm, hst, hen, fit, fol, _⟩
      rw [List.length_map, List.drop_length] at fol
      cases fol
      simp only [L2.start, cxOf, tRet, tAndV, tOrV, tNotV, tCB, tCons, tNil, tVar, tC, tOp, tUn, tTest, tB, tIf, tIfS, tSeq, tAsg, tAnd, tOr, tNot, gName, tNext, tCall, tChain, rI, rI0, rEq, rNe, rGcd, rU, tM1, tM0, tSl, tPart, tNoPart, gTup, gCons, gNil, gSub, tTup, tLst, tPar, L2.rI, List.map_cons, List.map_nil, List.length_cons, List.length_nil, List.cons_append, List.nil_append, List.append_nil, List.getElem?_cons_zero, List.getElem?_cons_succ, List.set_cons_zero, List.set_cons_succ, Option.some.injEq, exists_eq_left, exists_eq_left', exists_eq_right, exists_and_left, exists_and_right, List.cons.injEq, and_true, true_and, V.int.injEq, V.str.injEq, V.bl.injEq, V.ref.injEq, List.replicate, Nat.reduceAdd, Nat.reduceSub, reduceCtorEq, false_and, and_false, if_true, if_false, Bool.false_eq_true, Bool.not_true, Bool.not_false, decide_eq_true_eq, exists_false, or_false, false_or]
      exact q H' a sm ha hen
end
end W20

set_option Elab.async false
set_option linter.all false
set_option maxRecDepth 100000
set_option maxHeartbeats 4000000
/-! LayO: len(set(texts)): as many as the texts exactly if no text stands twice -/
namespace Lay
open PySem PySem.Spec PyProof.Rows L2
/-- c texts of the first i, all of them exactly if none stands twice -/
def Cnt (xs : List Str) (i c : Nat) : Prop := c ≤ i ∧ (c = i ↔ (xs.take i).Nodup)
theorem Cnt.next {xs : List Str} {i c : Nat} {x : Str} (h : Cnt xs i c) (hx : xs[i]? = some x) : Cnt xs (i + 1) (if (xs.take i).any (· == x) = true then c else c + 1) := by
  obtain ⟨hi, ex⟩ := List.getElem?_eq_some_iff.mp hx
  have tk : xs.take (i + 1) = xs.take i ++ [x] := by rw [List.take_succ_eq_append_getElem hi, ex]
  have mem : (xs.take i).any (· == x) = true ↔ x ∈ xs.take i := by
    rw [List.any_eq_true]
    exact ⟨fun ⟨y, hy, e⟩ => beq_iff_eq.mp e ▸ hy, fun hy => ⟨x, hy, beq_self_eq_true x⟩⟩
  have nd : (xs.take (i + 1)).Nodup ↔ (xs.take i).Nodup ∧ x ∉ xs.take i := by
    rw [tk, List.nodup_append]
    exact ⟨fun z => ⟨z.1, fun q => z.2.2 x q x (List.mem_singleton.mpr rfl) rfl⟩, fun z => ⟨z.1, by simp, fun a ha b hb e => z.2 (by rw [← List.mem_singleton.mp hb, ← e]; exact ha)⟩⟩
  obtain ⟨h1, h2⟩ := h
  by_cases m : x ∈ xs.take i
  · rw [if_pos (mem.mpr m)]
    exact ⟨by omega, ⟨fun e => absurd e (by omega), fun z => absurd m (nd.mp z).2⟩⟩
  · rw [if_neg fun z => m (mem.mp z)]
    exact ⟨by omega, ⟨fun e => nd.mpr ⟨h2.mp (by omega), m⟩, fun z => by have := h2.mpr (nd.mp z).1; omega⟩⟩
section
variable {prog : Program} {w : World} {A : Around} {R : Result → Shared → Prop} {I : Addr} {fp wr : List Addr} {G : Array GenState → Array GenState → Prop} {n : Nat} {P : Nat → Value → Prop} {St : Nat → Shared → Prop}
abbrev Texts (prog : Program) (w : World) (xs : List Str) (D : Addr) (i : Nat) (h : Heap) : Prop := ∃ c, Cnt xs i c ∧ h.SetOf (PySem.strKind prog w) D (fun y => (xs.take i).any (· == y)) c
theorem Texts.at {xs : List Str} {D : Addr} {i : Nat} {h h' : Heap} (t : Texts prog w xs D i h) (k : ∀ o, h.get? D = some o → h'.get? D = some o) : Texts prog w xs D i h' := by
  obtain ⟨c, hc, o, es, ep, tb, ho, rest⟩ := t
  exact ⟨c, hc, o, es, ep, tb, k _ ho, rest⟩
theorem texts_loop (W : WalksS prog w A.in1 I fp wr G n P St) (D : Addr) (nfp : D ∉ fp) (xs : List Str) (size : xs.length = n) (few : n < 4000) (val : ∀ i v, P i v → ∃ t, v = .str (xs.getD i Str.empty) t) :
    ∀ (k i : Nat) (s : Shared), n - i = k → i ≤ n → St i s → Texts prog w xs D i s.heap → (∀ s', Moved (D :: wr) G s s' → Texts prog w xs D n s'.heap → R (.ok (.ret .none)) s') → codeAny (model prog w) A (.builtin "set.update.loop" ⟨[.ref D, .ref I], []⟩) R s := by
  have nwr : D ∉ wr := fun z => nfp (W.sub _ z)
  have wider : ∀ b ∈ wr, b ∈ D :: wr := fun b z => List.mem_cons_of_mem _ z
  intro k
  induction k with
  | zero =>
    intro i s e le st T fin
    obtain rfl : i = n := by omega
    refine codeAny_builtin PyProof.Rows.F.entry_set_update_loop ?_; rw [Around.under_plainId PyProof.Rows.F.plain_set_update_loop _]
    refine wpAny_bind (W.done s _ _ st fun s' mv => ?_)
    exact wpAny_pure (fin s' (mv.mono wider) (T.at fun o z => mv.heap D o nwr z))
  | succ k ih =>
    intro i s e le st T fin
    have lt : i < n := by omega
    refine codeAny_builtin PyProof.Rows.F.entry_set_update_loop ?_; rw [Around.under_plainId PyProof.Rows.F.plain_set_update_loop _]
    refine wpAny_bind (W.item i s _ _ lt st fun v s1 hP st1 mv => ?_)
    obtain ⟨t, rfl⟩ := val i v hP
    obtain ⟨c, cn, so⟩ := T.at (h' := s1.heap) fun o z => mv.heap D o nwr z
    have xi : xs[i]? = some (xs.getD i Str.empty) := by rw [List.getD_eq_getElem?_getD, List.getElem?_eq_getElem (by omega)]; rfl
    refine wpAny_bind (wpAny_holding ?_); unfold setAdd
    refine wpAny_holding (wpAny_bind ((PySem.strKind prog w).pyHash (k := xs.getD i Str.empty) (strKind_is _ _ _ _) ?_))
    have c1 := cn.1
    refine wpAny_setAddHashed_of (knd := PySem.strKind prog w) (s := { s1 with toks := s1.toks + 1 }) (strKind_is _ _ _ _) rfl so (by unfold scanBound; omega) fun h2 sb so2 => ?_
    have tx : Texts prog w xs D (i + 1) h2 := by
      refine ⟨_, cn.next xi, SetOf_congr so2 (fun y => ?_) rfl⟩
      obtain ⟨hi, ex⟩ := List.getElem?_eq_some_iff.mp xi
      rw [show xs.take (i + 1) = xs.take i ++ [xs.getD i Str.empty] by rw [List.take_succ_eq_append_getElem hi, ex], List.any_append]
      congr 1
      generalize xs.getD i Str.empty = X
      rw [Bool.eq_iff_iff]
      refine ⟨fun e => ?_, fun e => ?_⟩
      · rw [of_decide_eq_true e]
        show ((X == X) || false) = true
        rw [Bool.or_false]
        exact beq_self_eq_true X
      · have e : ((X == y) || false) = true := e
        rw [Bool.or_false] at e
        exact decide_eq_true (beq_iff_eq.mp e).symm
    refine wpAny_pure ⟨plainId_quiet PyProof.Rows.F.plain_set_update_loop _, ih (i + 1) _ (by omega) lt (W.frame _ s1 _ _ st1 (Nat.le_succ _) fun b hb o z => (sb.2 b (fun q => nfp (q ▸ hb))).trans z) tx fun s3 mv3 T3 => ?_⟩
    exact fin s3 (Moved.trans W.gtrans ((mv.mono wider).then_heap (Nat.le_succ _) fun b o hb z => (sb.2 b (fun q => hb (q ▸ List.mem_cons_self))).trans z) mv3) T3
/-- set(l), l a list of texts -/
theorem set_of_texts {E : Value → Shared → Prop} {s : Shared} {l : Addr} {items : Array Value} {xs : List Str} {Q : Value → Shared → Prop} (calm : A.handled = none) (hl : s.heap.IsList l items) (hi : StrsAre items.toList xs) (few : xs.length < 4000)
    (fin : ∀ (h' : Heap) (tk : Nat), Texts prog w xs s.heap.objs.size xs.length h' → (∀ b o, b < s.heap.objs.size → s.heap.get? b = some o → h'.get? b = some o) → Q (.ref s.heap.objs.size) { s with heap := h', toks := tk }) :
    wpAny (model prog w) A (call (.type "set") [.ref l]) Q E s := by
  have size : xs.length = items.size := by rw [← StrsAre.len_eq hi, Array.length_toList]
  obtain ⟨c, tl, hmro⟩ := PySem.F.called_set.mro
  have a1 := PySem.F.called_set.made; have a2 := PySem.F.called_set.sub; have a3 := PySem.F.called_set.notType
  have a4 := PySem.F.called_set.canCreate; have a5 := PySem.F.typeCall_set_1 (.ref l)
  refine wpAny_call (codeAny_of_tree ?_)
  show wpAny _ _ (callAny (.type "set") _) _ _ _
  refine wpAny_pure ⟨Code.quiet_builtin _ (by decide +kernel), codeAny_builtin PySem.F.entry_type_call ?_⟩; rw [Around.under_plain (weight_type_call_type "set" [.ref l] []) rfl]
  repeat (any_goals (first | assumption | wp_step))
  generalize hD : s.heap.objs.size = D at *
  refine codeAny_mono (code_set_new_1 (.ref l) (E := E) (Q₁ := fun obj s1 => ∃ led : Bool, obj = .ref D ∧ s1 = { s with heap := s.heap.push { cls := .type "set", dict := none, data := .set #[] 0 (.fresh 0 0 led) } }) fun led => ⟨led, by rw [hD], rfl⟩) fun r s1 hr => ?_
  cases r with
  | error e => exact hr
  | ok fl => cases fl with
    | ret obj =>
      obtain ⟨led, rfl, rfl⟩ := hr
      generalize eN : s.heap.push { cls := .type "set", dict := none, data := .set #[] 0 (.fresh 0 0 led) } = N
      have nD : N.get? D = some { cls := .type "set", dict := none, data := .set #[] 0 (.fresh 0 0 led) } := by rw [← eN, ← hD]; exact Heap.get?_push_size _ rfl
      have nk : ∀ b o, s.heap.get? b = some o → N.get? b = some o := fun b o z => by rw [← eN]; exact Heap.get?_push_of_some _ z
      have nsz : N.objs.size = D + 1 := by rw [← eN, Heap.size_push, hD]
      have ty : Shared.TypeIs { s with heap := N } (.ref D) "set" := ⟨_, nD, rfl⟩
      have b1 := PySem.F.called_set.init.lookup; have b2 := PySem.F.called_set.init.bind (.ref D)
      repeat (any_goals (first | assumption | wp_step))
      refine codeAny_mono (codeAny_call_builtin (R := wants (fun r s2 => r = .none ∧ ∃ h' tk, s2 = { s with heap := h', toks := tk } ∧ Texts prog w xs D xs.length h' ∧ ∀ b o, b < D → s.heap.get? b = some o → h'.get? b = some o) E) PySem.F.called_set.init.plain PySem.F.entry_set_init (check_set_init_1 ty ?_)) fun r2 s2 hr2 => ?_
      · obtain ⟨⟨oc, od, odt, osl⟩, ho, hc, nl, hd⟩ := hl
        simp only at hc hd
        subst hc hd
        have ho2 := nk _ _ ho
        have c1 := PySem.F.sub_list_set; have c2 := PySem.F.sub_list_frozenset
        have c3 : (Value.type "list" == Value.type "dict") = false := by decide
        have li : N.IsList l items := ⟨_, ho2, rfl, nl, rfl⟩
        unfold Builtin.«set.__init__» noKeywords Builtin.Frozenset.updateFrom
        generalize hPI : pyIter = PI
        wp_walk
        subst hPI
        refine wpAny_pyIter_list li (wpAny_bind (wpAny_runValue ?_))
        have lD : l < D := by rw [← hD]; exact Heap.lt_size ho
        have nl2 : l ≠ N.objs.size := by rw [nsz]; exact Nat.ne_of_lt (Nat.lt_succ_of_lt lD)
        have nfp : D ∉ [N.objs.size, l] := by
          rw [nsz]
          simp only [List.mem_cons, List.not_mem_nil, or_false, not_or]
          exact ⟨Nat.ne_of_lt (Nat.lt_succ_self D), Nat.ne_of_gt lD⟩
        have val : ∀ (i : Nat) (v : Value), items[i]? = some v → ∃ t, v = .str (xs.getD i Str.empty) t := fun i v hv => SS.strs_at hi i v (by rw [Array.getElem?_toList]; exact hv)
        refine texts_loop ((Walks.list (by simp [calm]) _ l nl2 items).toS) D nfp xs size (by rw [← size]; exact few) val (items.size - 0) 0 _ (by omega) (Nat.zero_le _) ⟨⟨_, Heap.get?_push_size _ rfl, rfl, rfl⟩, (li.push _)⟩ ?_ ?_
        · refine ⟨0, ⟨Nat.le_refl _, by simp⟩, PyProof.Rows.SetOf_congr ((PyProof.Rows.setObjOf_fresh (knd := PySem.strKind prog w) led).setOf (Heap.get?_push_of_some _ nD) (by unfold scanBound; omega)) (fun _ => rfl) rfl⟩
        · intro s3 mv T3
          obtain ⟨h3, g3, d3, t3, os3⟩ := s3
          obtain rfl : g3 = s.gens := mv.gens
          obtain rfl : d3 = s.drawn := mv.drawn
          obtain rfl : os3 = s.os := mv.os
          show wpAny _ _ _ _ _ _
          refine wpAny_pure ?_
          show wpAny _ _ (ret Value.none) _ _ _
          refine wpAny_pure ⟨rfl, h3, t3, rfl, by rw [size]; exact T3, fun b o hb z => mv.heap b o ?_ (Heap.get?_push_of_some _ (nk _ _ z))⟩
          simp only [List.mem_cons, List.not_mem_nil, or_false, not_or]
          exact ⟨Nat.ne_of_lt hb, by rw [nsz]; exact Nat.ne_of_lt (Nat.lt_succ_of_lt hb)⟩
      · cases r2 with
        | error e => exact hr2
        | ok fl2 => cases fl2 with
          | ret r =>
            obtain ⟨rfl, h3, t3, rfl, T3, k3⟩ := hr2
            repeat (any_goals (first | assumption | wp_step))
            exact fin _ _ T3 k3
          | _ => exact hr2.elim
    | _ => exact hr.elim
end
/-- len(set(a)) -/
def tLenTexts (K : PySem.W.Frag) (ta : TE) : TE := fun σ H Q => ta σ H fun x H1 => ∃ (l : Addr) (xs : List Str), x = .ref l ∧ SqL K H1 l (xs.map V.str) ∧ xs.length < 4000 ∧ ∀ c : Nat, c ≤ xs.length → (c = xs.length ↔ xs.Nodup) → Q (.int c) H1
theorem texts_are : ∀ {xs : List Str} {us : List Value}, Vals (xs.map V.str) us → StrsAre us xs
  | [], _, .nil => .nil
  | x :: xs, _, .cons ⟨t, e⟩ r => by
    subst e
    exact .cons x t (texts_are r)
theorem pe_lenTexts {X : Cx} {a : Expr} {ta : TE} {p p2 q pos : Pos} (hc : X.calm = true) (hg : Gl X "len") (hm : X.mg "len" = none) (hg2 : Gl X "set") (hm2 : X.mg "set" = none) (ha : PE X a ta)
    (na : starEach [a] X.env = (false, eval a X.env) :: starEach [] X.env := by rfl) : PE X (.Call (.Name "len" p) [.Call (.Name "set" p2) [a] [] q] [] pos) (tLenTexts X.K ta) := by
  refine ⟨fun pins s σ H Q I h => Call_ (ld_blt I hg hm boot_len (callWith_builtin1 (args_cons (Call_ (ld_blt I hg2 hm2 boot_set (callWith_type1 (args_cons (thn (ha.run pins s σ H _ I h) fun v s1 ⟨x, H1, I1, r1, q1⟩ => args_nil ?_) na) na rfl))) rfl) rfl rfl))⟩
  obtain ⟨l, xs, rfl, hq, few, q1⟩ := q1
  cases r1
  obtain ⟨its, r, pl, hz⟩ := I1.list hq
  refine set_of_texts (xs := xs) (I1.ok.hd hc) pl.isList (by simpa using texts_are r) few fun h' tk ⟨c, cn, so⟩ hk => args_nil ?_
  obtain ⟨o, es, ep, t, ho, hex, hd, _, _, _, hf, hn⟩ := so
  have I2 : L2.Inv X pins σ H1 { s1 with heap := h', toks := tk } := I1.kept fun b o e => hk b o (Heap.lt_size e) e
  have c1 := cn.1
  have c2 := cn.2
  rw [List.take_length] at c2
  exact call_len_set ho hex hd hf (by rw [hn]; omega) ⟨.int c, H1, I2.tok _, ⟨_, by rw [hn]⟩, q1 c c1 c2⟩
end Lay

set_option Elab.async false
set_option linter.all false
set_option maxRecDepth 100000
set_option maxHeartbeats 4000000
/-! E20: tree_names -/
namespace W20
open PySem PySem.Spec PyProof.Rows L2 Lay
open SX (S S_len S_cat S_tl)
open C8 (Cal pe_c pe_gc fnScope_by E0)
def rIxN (K : PySem.W.Frag) : V → V → Hp → VK → Prop := fun x y H Q => ∃ p xs i v, x = .ref p ∧ y = .int i ∧ i < 0 ∧ SqL K H p xs ∧ atI xs i = some v ∧ Q v H
theorem get_neg {X : Cx} : PGet X (rIxN X.K) := by
  rintro pins s σ H x y v u Q I rx ry ⟨p, xs, i, z, rfl, rfl, neg, hq, he, q⟩
  cases rx
  obtain ⟨t, rfl⟩ := ry
  obtain ⟨its, r, pl, hz⟩ := I.list hq
  obtain ⟨j, h1, h2, h3, h4, h5⟩ := atI_get he
  obtain ⟨w, ew, rw'⟩ := r.get h2
  have hl := r.length
  have hn := line63
  have hj : (i + (its.toArray.size : Int)).toNat = j := by
    rw [seqIndex_neg neg h4] at h1; rw [List.size_toArray, ← hl]; exact Option.some.inj h1
  exact wpAny_getItem_list_neg (x := w) pl.isList neg (by rw [List.size_toArray] <;> omega) (by omega) (by rw [hj]; simpa using ew) ⟨z, H, I, rw', q⟩
theorem snoc_or {α : Type} (xs : List α) : xs = [] ∨ ∃ ys h, xs = ys ++ [h] := by
  rcases List.eq_nil_or_concat xs with h | ⟨ys, h, e⟩
  · exact .inl h
  · exact .inr ⟨ys, h, by rw [e, List.concat_eq_append]⟩
def cntV (xs : List Nat) : HO := .lst (xs.map fun (n : Nat) => V.int (n : Int))
theorem dp_ints {K : PySem.W.Frag} {H : Hp} : ∀ xs : List Nat, DpAll K H (xs.map fun (n : Nat) => V.int (n : Int)) ((xs.map fun (n : Nat) => (n : Int)).map PyData.int)
  | [] => .nil
  | x :: xs => .cons (.int _) (dp_ints xs)
theorem eq_nil {K : PySem.W.Frag} {H : Hp} {a l : Addr} {xs : List Nat} {Q : VK} (ha : H a = some (cntV xs)) (hl : H l = some (.lst [])) (q : Q (.bl (decide (xs = []))) H) : rEqD K (.ref a) (.ref l) H Q := by
  refine ⟨_, .list [], .lst (SqL.of ha) (dp_ints xs), .lst (SqL.of hl) .nil, PySem.W.ke_shaped_ints _, PySem.W.ke_shaped_ints [], ?_⟩
  have e : PyData.eqv (.list ((xs.map fun (n : Nat) => (n : Int)).map PyData.int)) (.list []) = decide (xs = []) := by
    cases xs <;> rfl
  rw [e]
  exact q
section
variable {P : Program} {w : World} {K : PySem.W.Frag} {mg : Str → Option Value} {base : Heap} {f : Addr} {fd : FuncData}
theorem sc29 : FnScope ["words", "names", "halves", "ended", "word"] ["words"] (defScope (top 28)) := fnScope_by (by decide +kernel)
/-- the names of words that are a tree, or None -/
def spNames : Sp := fun vs H Q _ => ∃ (t : Addr) (ws : List P20.Wd), vs = [.ref t] ∧ H t = some (wordsV ws) ∧ ws.length < 4000 ∧ (∀ u ∈ ws, u.length ≤ 1000000) ∧
  match P20.namesOf nameB ws with
  | none => ∀ H', Same H H' → Q .non H'
  | some ns => ∀ H' a, Same H H' → H a = none → H' a = some (wordsV ns) → Q (.ref a) H'
theorem ok_tree_names (m : Mg K mg) (c_is_name : Cal P w K mg base 2 "is_name" (spVal nameB) []) (F : Fn K "tree_names" 28 f fd) (g : mg "tree_names" = some (.ref f)) : Cal P w K mg base 3 "tree_names" spNames [] := by
  have sc := sc29
  refine calD F g sc (fun _ _ _ _ _ _ us hl => match us, hl with | [_], _ => rfl) ?_ fun cdv A outer s H vs Q E hr h => ?_
  · rintro vs H Q E ⟨t, ws, rfl, _⟩
    rfl
  · obtain ⟨t, ws, rfl, ht, few, short, q⟩ := h
    have room64 : (A.deeper (envOfC "tree_names" (defScope (top 28)) s.heap.objs.size f cdv)).units + 64 < cLine := by have := hr.un; omega
    refine ⟨_, (pss_cons (ps_set (i := 1) sc.nd rfl (.inl rfl) (pe_lst pa_nil))
      (pss_cons (ps_set (i := 2) sc.nd rfl (.inl rfl) (pe_lst pa_nil))
      (pss_cons (ps_set (i := 3) sc.nd rfl (.inl rfl) pe_bl)
      (pss_cons (ps_for pown rfl (pi_list (pv 0)) (pg_name (i := 4) sc.nd rfl (.inl rfl))
        (pss_cons (ps_if (pt_val (pv 3))
          (pss_one (ps_ret pe_non))
          pss_nil)
        (pss_cons (ps_if (pt_cmpR op_eq (pv 4) pe_str (nomark _))
          (pss_cons (ps_expr (pe_bm PySem.F.plainAttrs_list PySem.F.slot_list_append PySem.F.type_list_append mt_append (pv 2) (pa_cons pe_int pa_nil)))
          (pss_one ps_continue))
          pss_nil)
        (pss_cons (ps_if (pt_cmpR op_ne (pv 4) pe_str (nomark _))
          (pss_cons (ps_if (pt_not (pt_val (pe_c c_is_name hr (by decide) (by rfl) (pa_cons (pv 4) pa_nil))))
            (pss_one (ps_ret pe_non))
            pss_nil)
          (pss_one (ps_expr (pe_bm PySem.F.plainAttrs_list PySem.F.slot_list_append PySem.F.type_list_append mt_append (pv 1) (pa_cons (pv 4) pa_nil)))))
          (pss_one (ps_if ((pw_or (pt_cmpR (op_eqD room64) (pv 2) (pe_lst pa_nil) (nomark _)) (pw_or1 (pt_cmpR op_ne (pe_bm0 PySem.F.plainAttrs_list PySem.F.slot_list_pop PySem.F.type_list_pop mt_pop (pv 2)) pe_int (nomark _))))).pt
            (pss_one (ps_ret pe_non))
            pss_nil)))
        (pss_one (ps_if (pt_cmpR (op_eqD room64) (pv 2) (pe_lst pa_nil) (nomark _))
          (pss_one (ps_set (i := 3) sc.nd rfl (.inl rfl) pe_bl))
          (pss_one (ps_augS (pv 2) (pe_un un_neg pe_int) get_neg pe_int ip_add set_list))))))))
      (pss_cons (ps_if ((pw_or (pt_not (pt_val (pv 3))) (pw_or1 (pt_cmpR op_ne (pe_lenTexts rfl (by rfl) m.len_ (by rfl) m.set_ (pv 1)) (pe_callB call_len (by rfl) m.len_ boot_len (pa_cons (pv 1) pa_nil)) (nomark _))))).pt
        (pss_one (ps_ret pe_non))
        pss_nil)
      (pss_one (ps_ret (pv 1)))))))), ?_⟩
    have e41 : (")" : Str) = S [41] := by decide +kernel
    have e40 : ("(" : Str) = S [40] := by decide +kernel
    have szl := sizeLine_eq
    have qn : P20.namesOf nameB ws = none → ∀ H', Same H H' → Q .non H' := fun e => by
      rw [e] at q
      exact q
    have qs : ∀ ns, P20.namesOf nameB ws = some ns → ∀ H' a, Same H H' → H a = none → H' a = some (wordsV ns) → Q (.ref a) H' := fun ns e => by
      rw [e] at q
      exact q
    clear q
    simp only [L2.start, cxOf, tRet, tAndV, tOrV, tNotV, tCB, tCons, tNil, tVar, tC, tOp, tUn, tTest, tB, tSeq, tAsg, tNot, gName, tNext, tCall, tChain, rI, rI0, rEq, rNe, rGcd, rU, tM1, tM0, tSl, tPart, tNoPart, gTup, gCons, gNil, gSub, tTup, tLst, tPar, L2.rI, List.map_cons, List.map_nil, List.length_cons, List.length_nil, List.cons_append, List.nil_append, List.append_nil, List.getElem?_cons_zero, List.getElem?_cons_succ, List.set_cons_zero, List.set_cons_succ, Option.some.injEq, exists_eq_left, exists_eq_left', exists_eq_right, exists_and_left, exists_and_right, List.cons.injEq, and_true, true_and, V.int.injEq, V.str.injEq, V.bl.injEq, V.ref.injEq, List.replicate, Nat.reduceAdd, Nat.reduceSub, reduceCtorEq, false_and, and_false, if_true, if_false, Bool.false_eq_true, Bool.not_true, Bool.not_false, decide_eq_true_eq, exists_false, or_false, false_or]
    refine ⟨small (by decide), fun p hp => ⟨small (by decide), fun p1 hp1 => ?_⟩⟩
    have n01 : p ≠ p1 := fun z => by rw [← z, upd_same] at hp1; cases hp1
    have hp10 : H p1 = none := by rw [upd_ne (Ne.symm n01)] at hp1; exact hp1
    refine for_list_at (l := t) (xs := ws.map fun w => V.str (S w)) (fun R k => ⟨_, rfl, k⟩) (SqL.of ((same_new hp1) _ _ ((same_new hp) _ _ ht))) ⟨fun i σ' H' => ∃ (ns : List P20.Wd) (xs : List Nat) (e : Bool) (y : Option V), σ' = [some (.ref t), some (.ref p), some (.ref p1), some (.bl e), y] ∧ Same H H' ∧ H' p = some (wordsV ns) ∧ H' p1 = some (cntV xs) ∧
      P20.nmAll nameB (ws.drop i) ⟨ns, xs, e⟩ = P20.nmAll nameB ws ⟨[], [], false⟩ ∧ ns.length ≤ i ∧ xs.length ≤ i,
      ⟨[], [], false, none, rfl, (same_new hp).trans (same_new hp1), by rw [upd_ne n01, upd_same]; rfl, by rw [upd_same]; rfl, rfl, Nat.le_refl _, Nat.le_refl _⟩, ?_, ?_, ?_⟩
    · rintro i σ' H' _ ⟨ns, xs, e, y, rfl, sm, _⟩
      exact SqL.of (sm _ _ ht)
    · rintro i x σ' H' hx ⟨ns, xs, e, y, rfl, sm, hns, hxs, fol, l1, l2⟩
      rw [List.getElem?_map] at hx
      obtain ⟨w0, hw, rfl⟩ : ∃ w0, ws[i]? = some w0 ∧ V.str (S w0) = x := by
        cases e : ws[i]? with
        | none => rw [e] at hx; cases hx
        | some w0 => rw [e] at hx; exact ⟨w0, rfl, Option.some.inj hx⟩
      obtain ⟨hi, ew⟩ := List.getElem?_eq_some_iff.mp hw
      have dr : ws.drop i = w0 :: ws.drop (i + 1) := by rw [List.drop_eq_getElem_cons hi, ew]
      rw [dr] at fol
      have bad : P20.nm nameB ⟨ns, xs, e⟩ w0 = none → ∀ H', Same H H' → Q .non H' := fun z => qn (by
        have f2 : P20.nmAll nameB ws ⟨[], [], false⟩ = none := by
          rw [← fol]
          show (match P20.nm nameB ⟨ns, xs, e⟩ w0 with | none => none | some s' => _) = none
          rw [z]
        unfold P20.namesOf
        rw [f2])
      have good : ∀ {s'}, P20.nm nameB ⟨ns, xs, e⟩ w0 = some s' → P20.nmAll nameB (ws.drop (i + 1)) s' = P20.nmAll nameB ws ⟨[], [], false⟩ := fun {s'} z => by
        rw [← fol]
        show _ = (match P20.nm nameB ⟨ns, xs, e⟩ w0 with | none => none | some s' => P20.nmAll nameB (ws.drop (i + 1)) s')
        rw [z]
      have tyl : ∀ {H : Hp} {a : Addr} {zs : List V}, H a = some (.lst zs) → tyV K "list" (V.ref a) H := fun h => .inl ⟨rfl, _, SqL.of h⟩
      show tSeq _ _ _ [some (.ref t), some (.ref p), some (.ref p1), some (.bl e), some (.str (S w0))] H'
      refine seq_cut (fun σ' H2 => σ' = [some (.ref t), some (.ref p), some (.ref p1), some (.bl e), some (.str (S w0))] ∧ H2 = H' ∧ e = false) (fun D' hr hn => ?_) ?_
      · simp only [L2.start, cxOf, tRet, tAndV, tOrV, tNotV, tCB, tCons, tNil, tVar, tC, tOp, tUn, tTest, tB, tIf, tIfS, tSeq, tAsg, tAnd, tOr, tNot, gName, tNext, tCall, tChain, rI, rI0, rEq, rNe, rGcd, rU, tM1, tM0, tSl, tPart, tNoPart, gTup, gCons, gNil, gSub, tTup, tLst, tPar, L2.rI, List.map_cons, List.map_nil, List.length_cons, List.length_nil, List.cons_append, List.nil_append, List.append_nil, List.getElem?_cons_zero, List.getElem?_cons_succ, List.set_cons_zero, List.set_cons_succ, Option.some.injEq, exists_eq_left, exists_eq_left', exists_eq_right, exists_and_left, exists_and_right, List.cons.injEq, and_true, true_and, V.int.injEq, V.str.injEq, V.bl.injEq, V.ref.injEq, List.replicate, Nat.reduceAdd, Nat.reduceSub, reduceCtorEq, false_and, and_false, if_true, if_false, Bool.false_eq_true, Bool.not_true, Bool.not_false, decide_eq_true_eq, exists_false, or_false, false_or]
        cases e with
        | true =>
          rw [if_pos rfl, hr]
          exact bad (if_pos rfl) _ sm
        | false =>
          rw [if_neg (by decide)]
          exact hn _ _ ⟨rfl, rfl, rfl⟩
      rintro σ' H2 ⟨rfl, rfl, rfl⟩
      refine ⟨.str (S w0), rfl, rfl, _, rfl, ?_⟩
      dsimp only
      rw [e40]
      by_cases c40 : w0 = [40]
      · subst c40
        rw [if_pos (by simp)]
        simp only [L2.start, cxOf, tRet, tAndV, tOrV, tNotV, tCB, tCons, tNil, tVar, tC, tOp, tUn, tTest, tB, tIf, tIfS, tSeq, tAsg, tAnd, tOr, tNot, gName, tNext, tCall, tChain, rI, rI0, rEq, rNe, rGcd, rU, tM1, tM0, tSl, tPart, tNoPart, gTup, gCons, gNil, gSub, tTup, tLst, tPar, L2.rI, List.map_cons, List.map_nil, List.length_cons, List.length_nil, List.cons_append, List.nil_append, List.append_nil, List.getElem?_cons_zero, List.getElem?_cons_succ, List.set_cons_zero, List.set_cons_succ, Option.some.injEq, exists_eq_left, exists_eq_left', exists_eq_right, exists_and_left, exists_and_right, List.cons.injEq, and_true, true_and, V.int.injEq, V.str.injEq, V.bl.injEq, V.ref.injEq, List.replicate, Nat.reduceAdd, Nat.reduceSub, reduceCtorEq, false_and, and_false, if_true, if_false, Bool.false_eq_true, Bool.not_true, Bool.not_false, decide_eq_true_eq, exists_false, or_false, false_or, tDrop, tBM, rAppend, tCont]
        refine ⟨tyl hxs, _, hxs, by rw [List.length_map, szl]; omega, ns, xs ++ [0], false, ⟨rfl, _, rfl⟩, same_upd sm hp10, ?_, ?_, good rfl, by omega, by simp; omega⟩
        · rw [upd_ne n01]
          exact hns
        · rw [upd_same, cntV, List.map_append]
          rfl
      rw [if_neg (by simpa using fun z => c40 (SX.S_inj z)), show ∀ (D : Ends) (σ : L2.St) (H : Hp), tNext D σ H = D.nx σ H from fun _ _ _ => rfl]
      dsimp only
      show tSeq _ _ _ [some (.ref t), some (.ref p), some (.ref p1), some (.bl false), some (.str (S w0))] H2
      refine seq_cut (fun σ' H3 => ∃ ns2 xs2, σ' = [some (.ref t), some (.ref p), some (.ref p1), some (.bl false), some (.str (S w0))] ∧ Same H H3 ∧ H3 p = some (wordsV ns2) ∧ H3 p1 = some (cntV xs2) ∧ P20.nm nameB ⟨ns, xs, false⟩ w0 = some (P20.close ns2 xs2) ∧ ns2.length ≤ i + 1 ∧ xs2.length ≤ i) (fun D' hr hn => ?_) ?_
      · simp only [L2.start, cxOf, tRet, tAndV, tOrV, tNotV, tCB, tCons, tNil, tVar, tC, tOp, tUn, tTest, tB, tIf, tIfS, tSeq, tAsg, tAnd, tOr, tNot, gName, tNext, tCall, tChain, rI, rI0, rEq, rNe, rGcd, rU, tM1, tM0, tSl, tPart, tNoPart, gTup, gCons, gNil, gSub, tTup, tLst, tPar, L2.rI, List.map_cons, List.map_nil, List.length_cons, List.length_nil, List.cons_append, List.nil_append, List.append_nil, List.getElem?_cons_zero, List.getElem?_cons_succ, List.set_cons_zero, List.set_cons_succ, Option.some.injEq, exists_eq_left, exists_eq_left', exists_eq_right, exists_and_left, exists_and_right, List.cons.injEq, and_true, true_and, V.int.injEq, V.str.injEq, V.bl.injEq, V.ref.injEq, List.replicate, Nat.reduceAdd, Nat.reduceSub, reduceCtorEq, false_and, and_false, if_true, if_false, Bool.false_eq_true, Bool.not_true, Bool.not_false, decide_eq_true_eq, exists_false, or_false, false_or, tDrop, tBM, tBM0, rAppend, rPop, spVal]
        rw [e41, hr]
        refine ⟨rfl, ?_⟩
        by_cases c41 : w0 = [41]
        · subst c41
          rw [if_neg (by simp)]
          refine ⟨small (by decide), fun l hl => ?_⟩
          have sml : Same H2 (upd H2 l (.lst [])) := same_new hl
          refine eq_nil (sml _ _ hxs) upd_same ⟨_, rfl, ?_⟩
          rcases snoc_or xs with rfl | ⟨ys, h, rfl⟩
          · rw [if_pos (by simp)]
            exact bad rfl _ (sm.trans sml)
          · rw [if_neg (by simp)]
            have nme : P20.nm nameB ⟨ns, ys ++ [h], false⟩ [41] = if (some h : Option Nat) = some 2 then some (P20.close ns ys) else none := by
              unfold P20.nm
              rw [if_neg Bool.false_ne_true, if_neg (by decide), if_neg (by decide), List.getLast?_concat, List.dropLast_concat]
            have hx3 : (upd H2 l (.lst [])) p1 = some (.lst ((ys.map fun (n : Nat) => V.int (n : Int)) ++ [V.int (h : Int)])) := by
              rw [sml _ _ hxs, cntV, List.map_append]
              rfl
            refine ⟨tyl hx3, _, hx3, V.int (h : Int), by simp, rfl, ?_⟩
            rw [List.dropLast_concat]
            by_cases h2 : h = 2
            · subst h2
              rw [if_neg (by simp)]
              refine hn _ _ ⟨ns, ys, rfl, same_upd (sm.trans sml) hp10, ?_, upd_same, by rw [nme, if_pos rfl], by omega, by rw [List.length_append] at l2; omega⟩
              rw [upd_ne n01]
              exact sml _ _ hns
            · rw [if_pos (by simpa using fun z => h2 (by omega))]
              exact bad (by rw [nme, if_neg (fun z => h2 (Option.some.inj z))]) _ (same_upd (sm.trans sml) hp10)
        · rw [if_pos (by simpa using fun z => c41 (SX.S_inj z))]
          have nme : P20.nm nameB ⟨ns, xs, false⟩ w0 = if nameB w0 = true then some (P20.close (ns ++ [w0]) xs) else none := by
            unfold P20.nm
            rw [if_neg Bool.false_ne_true, if_neg c40, if_pos c41]
          refine ⟨w0, rfl, short _ (List.mem_of_getElem? hw), ?_⟩
          by_cases hb : nameB w0 = true
          · rw [if_neg (by simp [hb])]
            refine ⟨tyl hns, _, hns, by rw [List.length_map, szl]; omega, hn _ _ ⟨ns ++ [w0], xs, rfl, same_upd sm hp, ?_, ?_, by rw [nme, if_pos hb], by simp; omega, l2⟩⟩
            · rw [upd_same, wordsV, List.map_append]
              rfl
            · rw [upd_ne (Ne.symm n01)]
              exact hxs
          · rw [if_pos (by simpa using hb)]
            exact bad (by rw [nme, if_neg hb]) _ sm
      rintro σ' H3 ⟨ns2, xs2, rfl, sm3, hns3, hxs3, nm3, l3, l4⟩
      have fol3 := good nm3
      simp only [L2.start, cxOf, tRet, tAndV, tOrV, tNotV, tCB, tCons, tNil, tVar, tC, tOp, tUn, tTest, tB, tIf, tIfS, tSeq, tAsg, tAnd, tOr, tNot, gName, tNext, tCall, tChain, rI, rI0, rEq, rNe, rGcd, rU, tM1, tM0, tSl, tPart, tNoPart, gTup, gCons, gNil, gSub, tTup, tLst, tPar, L2.rI, List.map_cons, List.map_nil, List.length_cons, List.length_nil, List.cons_append, List.nil_append, List.append_nil, List.getElem?_cons_zero, List.getElem?_cons_succ, List.set_cons_zero, List.set_cons_succ, Option.some.injEq, exists_eq_left, exists_eq_left', exists_eq_right, exists_and_left, exists_and_right, List.cons.injEq, and_true, true_and, V.int.injEq, V.str.injEq, V.bl.injEq, V.ref.injEq, List.replicate, Nat.reduceAdd, Nat.reduceSub, reduceCtorEq, false_and, and_false, if_true, if_false, Bool.false_eq_true, Bool.not_true, Bool.not_false, decide_eq_true_eq, exists_false, or_false, false_or, tAugS]
      refine ⟨small (by decide), fun l hl => ?_⟩
      have sml : Same H3 (upd H3 l (.lst [])) := same_new hl
      refine eq_nil (sml _ _ hxs3) upd_same ⟨_, rfl, ?_⟩
      rcases snoc_or xs2 with rfl | ⟨ys, h, rfl⟩
      · rw [if_pos (by simp)]
        exact ⟨ns2, [], true, ⟨rfl, _, rfl⟩, sm3.trans sml, sml _ _ hns3, sml _ _ hxs3, fol3, by omega, Nat.zero_le _⟩
      · rw [if_neg (by simp)]
        rw [P20.close_open] at fol3
        have hx3 : (upd H3 l (.lst [])) p1 = some (.lst ((ys.map fun (n : Nat) => V.int (n : Int)) ++ [V.int (h : Int)])) := by
          rw [sml _ _ hxs3, cntV, List.map_append]
          rfl
        have ix : ixN ((ys.map fun (n : Nat) => V.int (n : Int)) ++ [V.int (h : Int)]).length (-1) = some ys.length := by
          unfold ixN
          rw [if_neg (by decide), if_pos (by rw [List.length_append, List.length_singleton]; omega), List.length_append, List.length_singleton, List.length_map]
          congr 1
          omega
        refine ⟨p1, _, -1, V.int (h : Int), rfl, rfl, by decide, SqL.of hx3, ?_, (h : Int), 1, rfl, rfl, p1, _, -1, ys.length, rfl, rfl, hx3, ix, ns2, ys ++ [h + 1], false, ⟨rfl, _, rfl⟩, same_upd (sm3.trans sml) hp10, ?_, ?_, fol3, by omega, by rw [List.length_append, List.length_singleton] at l4 ⊢; omega⟩
        · unfold atI
          rw [ix]
          show ((ys.map fun (n : Nat) => V.int (n : Int)) ++ [V.int (h : Int)])[ys.length]? = _
          rw [List.getElem?_append_right (by rw [List.length_map]; exact Nat.le_refl _), List.length_map, Nat.sub_self]
          rfl
        · rw [upd_ne n01]
          exact sml _ _ hns3
        · rw [upd_same, cntV, List.map_append]
          have e : ((ys.map fun (n : Nat) => V.int (n : Int)) ++ [V.int (h : Int)]).set ys.length (V.int ((h : Int) + 1)) = (ys.map fun (n : Nat) => V.int (n : Int)) ++ [V.int ((h : Int) + 1)] := by
            have := List.set_append_right (s := ys.map fun (n : Nat) => V.int (n : Int)) (t := [V.int (h : Int)]) ys.length (V.int ((h : Int) + 1)) (by rw [List.length_map]; exact Nat.le_refl _)
            rw [this, List.length_map, Nat.sub_self]
            rfl
          rw [e]
          rfl
    · rintro σ' H' ⟨ns, xs, e, y, rfl, sm, hns, hxs, fol, l1, l2⟩
      rw [List.length_map] at l1 l2
      rw [List.length_map, List.drop_length] at fol
      have fin : P20.nmAll nameB ws ⟨[], [], false⟩ = some ⟨ns, xs, e⟩ := fol.symm
      have nms : P20.namesOf nameB ws = if e = true ∧ ns.Nodup then some ns else none := by
        unfold P20.namesOf
        rw [fin]
      simp only [L2.start, cxOf, tRet, tAndV, tOrV, tNotV, tCB, tCons, tNil, tVar, tC, tOp, tUn, tTest, tB, tIf, tIfS, tSeq, tAsg, tAnd, tOr, tNot, gName, tNext, tCall, tChain, rI, rI0, rEq, rNe, rGcd, rU, tM1, tM0, tSl, tPart, tNoPart, gTup, gCons, gNil, gSub, tTup, tLst, tPar, L2.rI, List.map_cons, List.map_nil, List.length_cons, List.length_nil, List.cons_append, List.nil_append, List.append_nil, List.getElem?_cons_zero, List.getElem?_cons_succ, List.set_cons_zero, List.set_cons_succ, Option.some.injEq, exists_eq_left, exists_eq_left', exists_eq_right, exists_and_left, exists_and_right, List.cons.injEq, and_true, true_and, V.int.injEq, V.str.injEq, V.bl.injEq, V.ref.injEq, List.replicate, Nat.reduceAdd, Nat.reduceSub, reduceCtorEq, false_and, and_false, if_true, if_false, Bool.false_eq_true, Bool.not_true, Bool.not_false, decide_eq_true_eq, exists_false, or_false, false_or, tLenTexts]
      cases e with
      | false =>
        rw [if_pos (by decide)]
        exact qn (by rw [nms, if_neg (fun z => by cases z.1)]) _ sm
      | true =>
        rw [if_neg (by decide)]
        have lenS : (ns.map S).length = ns.length := List.length_map ..
        refine ⟨ns.map S, SqL.of (by rw [hns, wordsV, List.map_map]; rfl), by rw [lenS]; omega, fun c h1 h2 => ⟨ns.length, ?_, rfl, ?_⟩⟩
        · have := len_L (K := K) (SqL.of (K := K) hns)
          rw [List.length_map] at this
          exact this
        have nd : (ns.map S).Nodup ↔ ns.Nodup := by
          rw [List.nodup_iff_pairwise_ne, List.nodup_iff_pairwise_ne, List.pairwise_map]
          exact ⟨fun z => z.imp fun h e => h (by rw [e]), fun z => z.imp fun h e => h (SX.S_inj e)⟩
        rw [lenS] at h2
        by_cases hc : c = ns.length
        · rw [if_neg (by simp [hc])]
          exact qs ns (by rw [nms, if_pos ⟨rfl, nd.mp (h2.mp hc)⟩]) H' p sm hp hns
        · rw [if_pos (by simpa using fun z => hc (by omega))]
          exact qn (by rw [nms, if_neg (fun z => hc (h2.mpr (nd.mpr z.2)))]) _ sm
end
end W20

set_option Elab.async false
set_option linter.all false
set_option maxRecDepth 100000
set_option maxHeartbeats 4000000
/-! T20: what a made tree holds -/
namespace P20
open Tr
theorem nodes_before : ∀ {t : Tr} {i : Nat} {l r : Tr}, (nodes t)[i]? = some (node l r) → l ∈ (nodes t).take i ∧ r ∈ (nodes t).take i
  | leaf w, i, l, r, h => by
    match i, h with
    | 0, h => cases h
    | i + 1, h => cases h
  | node a b, i, l, r, h => by
    rw [nodes] at h ⊢
    by_cases h1 : i < (nodes a).length
    · rw [List.append_assoc, List.getElem?_append_left h1] at h
      have ih := nodes_before h
      rw [List.append_assoc, List.take_append_of_le_length (by omega)]
      exact ih
    · by_cases h2 : i < (nodes a ++ nodes b).length
      · rw [List.getElem?_append_left h2, List.getElem?_append_right (by omega)] at h
        have ih := nodes_before h
        rw [List.take_append_of_le_length (by omega), List.take_append, List.mem_append, List.mem_append]
        exact ⟨.inr ih.1, .inr ih.2⟩
      · have e : i = (nodes a ++ nodes b).length := by
          have := (List.getElem?_eq_some_iff.mp h).1
          rw [List.length_append (as := nodes a ++ nodes b), List.length_singleton] at this
          omega
        subst e
        rw [List.getElem?_append_right (Nat.le_refl _), Nat.sub_self] at h
        cases h
        rw [List.take_left']
        · exact ⟨List.mem_append_left _ (self_mem _), List.mem_append_right _ (self_mem _)⟩
        · rfl
theorem nodes_last (t : Tr) : (nodes t).getLast? = some t := by
  cases t with
  | leaf w => rfl
  | node l r => rw [nodes, List.getLast?_concat]
theorem nodes_pos (t : Tr) : 0 < (nodes t).length := List.length_pos_iff.mpr fun e => by
  have := nodes_last t
  rw [e] at this
  cases this
theorem nodes_len : ∀ t : Tr, (nodes t).length + 1 = 2 * (leaves t).length
  | leaf w => rfl
  | node l r => by
    have h1 := nodes_len l
    have h2 := nodes_len r
    simp only [nodes, leaves, List.length_append, List.length_singleton]
    omega
theorem toks_len : ∀ t : Tr, (toks t).length + 2 = 3 * (leaves t).length
  | leaf w => rfl
  | node l r => by
    have h1 := toks_len l
    have h2 := toks_len r
    simp only [toks, leaves, List.length_append, List.length_singleton, List.length_cons, List.length_nil]
    omega
theorem leaf_tok : ∀ {t : Tr} {w : Wd}, w ∈ leaves t → w ∈ toks t
  | leaf w, v, h => h
  | node l r, v, h => by
    rcases List.mem_append.mp h with z | z
    · exact List.mem_cons_of_mem _ (List.mem_append_left _ (leaf_tok z))
    · exact List.mem_cons_of_mem _ (List.mem_append_right _ (List.mem_append_left _ (leaf_tok z)))
theorem tok_len : ∀ {t : Tr} {w : Wd}, w ∈ toks t → 0 < (leaves t).length → w.length ≤ (spell t).length
  | leaf w, v, h, _ => by
    rw [List.mem_singleton.mp h]
    exact Nat.le_refl _
  | node l r, v, h, _ => by
    have hs : (spell (node l r)).length = (spell l).length + (spell r).length + 3 := by
      simp only [spell, List.length_cons, List.length_append, List.length_nil]
      omega
    rw [hs]
    rcases List.mem_cons.mp h with rfl | z
    · simp only [List.length_cons, List.length_nil]
      omega
    · rcases List.mem_append.mp z with z | z
      · have := tok_len z leaves_len' 
        omega
      · rcases List.mem_append.mp z with z | z
        · have := tok_len z leaves_len'
          omega
        · rw [List.mem_singleton.mp z]
          simp only [List.length_cons, List.length_nil]
          omega
where leaves_len' {t : Tr} : 0 < (leaves t).length := List.length_pos_iff.mpr (leaves_pos t)
/-- the most that a tree of n names of at most k signs is long -/
theorem spell_len {k : Nat} : ∀ {t : Tr}, (∀ w ∈ leaves t, w.length ≤ k) → (spell t).length + 3 ≤ (k + 3) * (leaves t).length
  | leaf w, h => by
    have := h w (List.mem_singleton.mpr rfl)
    simp only [spell, leaves, List.length_singleton]
    omega
  | node l r, h => by
    have h1 := spell_len (t := l) (k := k) fun w hw => h w (List.mem_append_left _ hw)
    have h2 := spell_len (t := r) (k := k) fun w hw => h w (List.mem_append_right _ hw)
    simp only [spell, leaves, List.length_cons, List.length_append, List.length_nil, Nat.mul_add]
    omega
end P20
namespace W20
open PySem PySem.Spec PyProof.Rows L2 Lay
open SX (S S_len S_cat S_tl)
theorem val_at : ∀ {kvs : List (Key × V)} {i : Nat} {kv : Key × V}, (kvs.map (·.1)).Nodup → kvs[i]? = some kv → valV kvs kv.1 = some kv.2
  | [], i, kv, _, h => by simp at h
  | p :: r, 0, kv, _, h => by
    cases h
    exact valV_pos rfl
  | p :: r, i + 1, kv, nd, h => by
    rw [List.map_cons, List.nodup_cons] at nd
    have h : r[i]? = some kv := h
    rw [valV_neg fun e => nd.1 (List.mem_map.mpr ⟨kv, List.mem_of_getElem? h, e.symm⟩)]
    exact val_at nd.2 h
theorem val_no {kvs : List (Key × V)} {k : Key} (h : k ∉ kvs.map (·.1)) : valV kvs k = none := by
  unfold valV
  rw [Option.map_eq_none_iff, List.find?_eq_none]
  intro kv hkv
  rw [decide_eq_true_eq]
  exact fun e => h (List.mem_map.mpr ⟨kv, hkv, e⟩)
def keyS (t : P20.Tr) : Key := .inr (S (P20.spell t))
theorem keys_nd {T : P20.Tr} (ok : P20.Ok T) (nd : (P20.leaves T).Nodup) : ((P20.nodes T).map keyS).Nodup := by
  have h := P20.keys_nodup ok nd
  rw [List.nodup_iff_pairwise_ne, List.pairwise_map] at h ⊢
  exact h.imp fun ne e => ne (SX.S_inj (Sum.inr.inj e))
def HalfOf (H : Hp) (t : P20.Tr) (v : V) : Prop := HalfAt H (P20.ent t).2 v
/-- the entry of a node -/
theorem HalvesAt.get {H : Hp} {a : Addr} {T n : P20.Tr} (h : HalvesAt H a ((P20.nodes T).map P20.ent)) (ok : P20.Ok T) (nd : (P20.leaves T).Nodup) (hn : n ∈ P20.nodes T) :
    ∃ kvs v, H a = some (.dK kvs) ∧ valV kvs (keyS n) = some v ∧ HalfOf H n v := by
  obtain ⟨kvs, h1, h2, h3⟩ := h
  obtain ⟨i, hi, e⟩ := List.getElem_of_mem hn
  have g1 : ((P20.nodes T).map P20.ent)[i]? = some (P20.ent n) := by rw [List.getElem?_map, List.getElem?_eq_getElem hi, e]; rfl
  have k2 : kvs.map (·.1) = (P20.nodes T).map keyS := by
    rw [h2, List.map_map]
    exact List.map_congr_left fun t _ => by show (Sum.inr (S (P20.ent t).1) : Key) = _; rw [P20.ent_key]; rfl
  have len : kvs.length = (P20.nodes T).length := by
    have := congrArg List.length k2
    simpa using this
  have g2 : kvs[i]? = some (kvs[i]'(by omega)) := List.getElem?_eq_getElem _
  refine ⟨kvs, (kvs[i]'(by omega)).2, h1, ?_, h3 i _ _ g1 g2⟩
  have ek : (kvs[i]'(by omega)).1 = keyS n := by
    have e1 : (kvs.map (·.1))[i]? = some (kvs[i]'(by omega)).1 := by rw [List.getElem?_map, g2]; rfl
    rw [k2, List.getElem?_map, List.getElem?_eq_getElem hi, e] at e1
    exact (Option.some.inj e1).symm
  rw [← ek]
  exact val_at (by rw [k2]; exact keys_nd ok nd) g2
/-- a text that is no node is no key -/
theorem HalvesAt.none {H : Hp} {a : Addr} {T n : P20.Tr} (h : HalvesAt H a ((P20.nodes T).map P20.ent)) (ok : P20.Ok T) (okn : P20.Ok n) (hn : n ∉ P20.nodes T) : ∃ kvs, H a = some (.dK kvs) ∧ valV kvs (keyS n) = none := by
  obtain ⟨kvs, h1, h2, _⟩ := h
  refine ⟨kvs, h1, val_no fun z => hn ?_⟩
  rw [h2, List.map_map] at z
  obtain ⟨t, ht, e⟩ := List.mem_map.mp z
  have e : (Sum.inr (S (P20.ent t).1) : Key) = keyS n := e
  rw [P20.ent_key] at e
  have e2 := SX.S_inj (Sum.inr.inj e)
  exact P20.spell_inj (P20.ok_sub ok ht) okn e2 ▸ ht
abbrev wV (ws : List P20.Wd) : List V := ws.map fun w => V.str (S w)
/-- the dict of the lots of the nodes ns -/
def LotsAt (H : Hp) (a : Addr) (ns : List P20.Tr) : Prop := ∃ kvs : List (Key × V), H a = some (.dK kvs) ∧ kvs.map (·.1) = ns.map keyS ∧ ∀ (i : Nat) n kv, ns[i]? = some n → kvs[i]? = some kv → ∃ t, kv.2 = .ref t ∧ H t = some (.tup (wV (P20.leaves n)))
theorem LotsAt.mono {H H' : Hp} {a : Addr} {ns : List P20.Tr} (h : LotsAt H a ns) (e : ∀ b u, H b = some u → (b = a ∨ ∃ xs, u = .tup xs) → H' b = some u) : LotsAt H' a ns := by
  obtain ⟨kvs, h1, h2, h3⟩ := h
  refine ⟨kvs, e _ _ h1 (.inl rfl), h2, fun i n kv g1 g2 => ?_⟩
  obtain ⟨t, et, ht⟩ := h3 i n kv g1 g2
  exact ⟨t, et, e _ _ ht (.inr ⟨_, rfl⟩)⟩
theorem LotsAt.same {H H' : Hp} {a : Addr} {ns : List P20.Tr} (h : LotsAt H a ns) (e : Same H H') : LotsAt H' a ns := h.mono fun b u g _ => e b u g
theorem LotsAt.len {H : Hp} {a : Addr} {ns : List P20.Tr} (h : LotsAt H a ns) : ∃ kvs, H a = some (.dK kvs) ∧ kvs.length = ns.length := by
  obtain ⟨kvs, h1, h2, _⟩ := h
  refine ⟨kvs, h1, ?_⟩
  have := congrArg List.length h2
  simpa using this
theorem LotsAt.get {H : Hp} {a : Addr} {ns : List P20.Tr} {n : P20.Tr} (h : LotsAt H a ns) (nd : (ns.map keyS).Nodup) (hn : n ∈ ns) : ∃ kvs t, H a = some (.dK kvs) ∧ valV kvs (keyS n) = some (.ref t) ∧ H t = some (.tup (wV (P20.leaves n))) := by
  obtain ⟨kvs, h1, h2, h3⟩ := h
  obtain ⟨i, hi, e⟩ := List.getElem_of_mem hn
  have len : kvs.length = ns.length := by
    have := congrArg List.length h2
    simpa using this
  have g1 : ns[i]? = some n := by rw [List.getElem?_eq_getElem hi, e]
  have g2 : kvs[i]? = some (kvs[i]'(by omega)) := List.getElem?_eq_getElem _
  obtain ⟨t, et, ht⟩ := h3 i _ _ g1 g2
  refine ⟨kvs, t, h1, ?_, ht⟩
  have ek : (kvs[i]'(by omega)).1 = keyS n := by
    have e1 : (kvs.map (·.1))[i]? = some (kvs[i]'(by omega)).1 := by rw [List.getElem?_map, g2]; rfl
    rw [h2, List.getElem?_map, g1] at e1
    exact (Option.some.inj e1).symm
  rw [← ek, val_at (by rw [h2]; exact nd) g2, et]
theorem LotsAt.put {H : Hp} {a t : Addr} {ns : List P20.Tr} {n : P20.Tr} (h : LotsAt H a ns) (fr : keyS n ∉ ns.map keyS) (ht : H t = some (.tup (wV (P20.leaves n)))) :
    ∃ kvs, H a = some (.dK kvs) ∧ kvs.length = ns.length ∧ LotsAt (upd H a (.dK (putK kvs (keyS n) (.ref t)))) a (ns ++ [n]) := by
  obtain ⟨kvs, h1, h2, h3⟩ := h
  have len : kvs.length = ns.length := by
    have := congrArg List.length h2
    simpa using this
  have nw : valV kvs (keyS n) = none := val_no (by rw [h2]; exact fr)
  refine ⟨kvs, h1, len, kvs ++ [(keyS n, .ref t)], by rw [upd_same, putK_new _ nw], by rw [List.map_append, List.map_append, h2]; rfl, ?_⟩
  have keep : ∀ {t xs}, H t = some (.tup xs) → (upd H a (.dK (putK kvs (keyS n) (.ref t)))) t = some (.tup xs) := fun q => by
    rw [upd_ne (ne_of q h1 (fun z => by cases z))]
    exact q
  intro i e' kv g1 g2
  have keep2 : ∀ {s xs}, H s = some (.tup xs) → (upd H a (.dK (putK kvs (keyS n) (.ref t)))) s = some (.tup xs) := fun q => by
    rw [upd_ne (ne_of q h1 (fun z => by cases z))]
    exact q
  by_cases hi : i < ns.length
  · rw [List.getElem?_append_left hi] at g1
    rw [List.getElem?_append_left (by omega)] at g2
    obtain ⟨s, es, hs⟩ := h3 i e' kv g1 g2
    exact ⟨s, es, keep2 hs⟩
  · by_cases hi2 : i = ns.length
    · subst hi2
      rw [List.getElem?_append_right (Nat.le_refl _), Nat.sub_self] at g1
      rw [List.getElem?_append_right (by omega), len, Nat.sub_self] at g2
      cases g1
      cases g2
      exact ⟨t, rfl, keep2 ht⟩
    · rw [List.getElem?_eq_none (by rw [List.length_append, List.length_singleton]; omega)] at g1
      cases g1
/-- the dict of what stands above -/
def abv (kvs : List (Key × V)) : P20.Tr → List (Key × V)
  | .leaf _ => kvs
  | .node l r => putK (putK kvs (keyS l) (.str (S (P20.spell (.node l r))))) (keyS r) (.str (S (P20.spell (.node l r))))
def aboveK (ns : List P20.Tr) : List (Key × V) := ns.foldl abv []
theorem putK_len {kvs : List (Key × V)} {k : Key} {v : V} : (putK kvs k v).length ≤ kvs.length + 1 := by
  unfold putK
  split
  · rw [List.length_map]; omega
  · rw [List.length_append, List.length_singleton]; exact Nat.le_refl _
theorem aboveK_len (ns : List P20.Tr) : (aboveK ns).length ≤ 2 * ns.length := by
  have : ∀ (ns : List P20.Tr) (kvs : List (Key × V)), (ns.foldl abv kvs).length ≤ kvs.length + 2 * ns.length := by
    intro ns
    induction ns with
    | nil => intro kvs; simp
    | cons t r ih =>
      intro kvs
      rw [List.foldl_cons]
      refine Nat.le_trans (ih _) ?_
      have : (abv kvs t).length ≤ kvs.length + 2 := by
        cases t with
        | leaf w => exact Nat.le_add_right _ _
        | node l r => exact Nat.le_trans putK_len (Nat.succ_le_succ putK_len)
      rw [List.length_cons]
      omega
  have h := this ns []
  simpa [aboveK] using h
abbrev spV (t : P20.Tr) : V := .str (S (P20.spell t))
/-- the tree at x -/
def TreeAt (C : Addr) (H : Hp) (x : Addr) (T : P20.Tr) : Prop := ∃ dx lv nd d lo ab : Addr,
  H x = some (.ins C dx [("leaves", .ref lv), ("nodes", .ref nd), ("root", spV T), ("text", spV T), ("_halves", .ref d), ("_lots", .ref lo), ("_above", .ref ab)]) ∧
  H lv = some (.tup (wV (P20.leaves T))) ∧ H nd = some (.tup ((P20.nodes T).map spV)) ∧ HalvesAt H d ((P20.nodes T).map P20.ent) ∧ LotsAt H lo (P20.nodes T) ∧ H ab = some (.dK (aboveK (P20.nodes T)))
theorem TreeAt.same {C : Addr} {H H' : Hp} {x : Addr} {T : P20.Tr} (h : TreeAt C H x T) (e : Same H H') : TreeAt C H' x T := by
  obtain ⟨dx, lv, nd, d, lo, ab, h1, h2, h3, h4, h5, h6⟩ := h
  exact ⟨dx, lv, nd, d, lo, ab, e _ _ h1, e _ _ h2, e _ _ h3, h4.same e, h5.same e, e _ _ h6⟩
end W20

set_option Elab.async false
set_option linter.all false
/-! PR20: the law's reader of trees (pure), and that it agrees with tree_names -/
namespace P20
open Tr
/-- the reader's state: the names so far, the stack (the last one first; none: an open bracket) -/
structure LS where
  used : List Wd
  st : List (Option Tr)
def rd (P : Wd → Bool) (s : LS) (w : Wd) : Option LS :=
  if w = [40] then some ⟨s.used, none :: s.st⟩
  else if w = [41] then (match s.st with
    | some r :: some l :: none :: st => some ⟨s.used, some (node l r) :: st⟩
    | _ => none)
  else if P w = true ∧ w ∉ s.used then some ⟨s.used ++ [w], some (leaf w) :: s.st⟩ else none
def rdAll (P : Wd → Bool) : List Wd → LS → Option LS
  | [], s => some s
  | w :: r, s => match rd P s w with
    | none => none
    | some s' => rdAll P r s'
theorem rd_app {P : Wd → Bool} : ∀ (x y : List Wd) (s : LS), rdAll P (x ++ y) s = (match rdAll P x s with | none => none | some s' => rdAll P y s')
  | [], y, s => rfl
  | w :: r, y, s => by
    show (match rd P s w with | none => none | some s' => rdAll P (r ++ y) s') = _
    show _ = (match (match rd P s w with | none => none | some s' => rdAll P r s') with | none => none | some s' => rdAll P y s')
    cases rd P s w with
    | none => rfl
    | some s' => exact rd_app r y s'
def endOf (s : LS) : Option (List Wd × Tr) := match s.st with
  | [some t] => some (s.used, t)
  | _ => none
def readOf (P : Wd → Bool) (ws : List Wd) : Option (List Wd × Tr) := match rdAll P ws ⟨[], []⟩ with
  | some s => endOf s
  | none => none
/-- what was read, as it stands on the stack -/
def toksS : List (Option Tr) → List Wd
  | [] => []
  | none :: st => toksS st ++ [[40]]
  | some t :: st => toksS st ++ toks t
def leavesS : List (Option Tr) → List Wd
  | [] => []
  | none :: st => leavesS st
  | some t :: st => leavesS st ++ leaves t
structure SOk (P : Wd → Bool) (ws : List Wd) (s : LS) : Prop where
  toks : ws = toksS s.st
  used : s.used = leavesS s.st
  nd : s.used.Nodup
  good : ∀ t, some t ∈ s.st → Good P t
theorem SOk.step {P : Wd → Bool} (hn : ∀ w, P w = true → Name w) {ws : List Wd} {s s' : LS} {w : Wd} (h : SOk P ws s) (e : rd P s w = some s') : SOk P (ws ++ [w]) s' := by
  unfold rd at e
  by_cases c1 : w = [40]
  · rw [if_pos c1] at e
    cases e
    exact ⟨by rw [h.toks, c1]; rfl, h.used, h.nd, fun t ht => h.good t (by simpa using ht)⟩
  rw [if_neg c1] at e
  by_cases c2 : w = [41]
  · rw [if_pos c2] at e
    split at e
    · rename_i r l st hst
      cases e
      have h1 := h.toks
      have h2 := h.used
      rw [hst] at h1 h2
      refine ⟨?_, ?_, h.nd, fun t ht => ?_⟩
      · rw [h1, c2]
        simp [toksS, P20.toks]
      · rw [h2]
        simp [leavesS, leaves]
      · rcases List.mem_cons.mp ht with z | z
        · cases z
          have gl := h.good l (by rw [hst]; simp)
          have gr := h.good r (by rw [hst]; simp)
          intro w hw
          rcases List.mem_append.mp hw with z | z
          · exact gl w z
          · exact gr w z
        · exact h.good t (by rw [hst]; simp [z])
    · cases e
  rw [if_neg c2] at e
  split at e
  · rename_i c3
    cases e
    refine ⟨by rw [h.toks]; rfl, by rw [h.used]; rfl, ?_, fun t ht => ?_⟩
    · rw [List.nodup_append]
      exact ⟨h.nd, by simp, fun a ha b hb e => c3.2 (by rw [List.mem_singleton.mp hb] at e; exact e ▸ ha)⟩
    · rcases List.mem_cons.mp ht with z | z
      · cases z
        intro v hv
        rw [List.mem_singleton.mp hv]
        exact ⟨c3.1, hn w c3.1⟩
      · exact h.good t z
  · cases e
theorem SOk.all {P : Wd → Bool} (hn : ∀ w, P w = true → Name w) : ∀ {r ws : List Wd} {s s' : LS}, SOk P ws s → rdAll P r s = some s' → SOk P (ws ++ r) s'
  | [], ws, s, s', h, e => by
    cases e
    rw [List.append_nil]
    exact h
  | w :: r, ws, s, s', h, e => by
    unfold rdAll at e
    split at e
    · cases e
    · rename_i s1 e1
      have := SOk.all hn (h.step hn e1) e
      rw [List.append_assoc] at this
      exact this
theorem SOk.nil {P : Wd → Bool} : SOk P [] ⟨[], []⟩ := ⟨rfl, rfl, by simp, fun t ht => by simp at ht⟩
theorem read_sound {P : Wd → Bool} (hn : ∀ w, P w = true → Name w) {ws u : List Wd} {t : Tr} (h : readOf P ws = some (u, t)) : ws = toks t ∧ leaves t = u ∧ Good P t ∧ u.Nodup := by
  unfold readOf at h
  split at h
  · rename_i s e
    have k := SOk.all hn SOk.nil e
    unfold endOf at h
    split at h
    · rename_i t' hst
      cases h
      have h1 := k.toks
      have h2 := k.used
      rw [hst] at h1 h2
      exact ⟨by simpa [toksS] using h1, by simpa [leavesS] using h2.symm, k.good t (by rw [hst]; simp), k.nd⟩
    · cases h
  · cases h
/-! the two machines together -/
/-- the stack and the counted halves (the last one first), nothing ended -/
inductive Fit : List (Option Tr) → List Nat → Prop
  | nil : Fit [] []
  | opn {st : List (Option Tr)} {hs : List Nat} : Fit st hs → Fit (none :: st) (0 :: hs)
  | add {st : List (Option Tr)} {h : Nat} {hs : List Nat} {t : Tr} : Fit st (h :: hs) → Fit (some t :: st) ((h + 1) :: hs)
theorem Fit.nil_inv {st : List (Option Tr)} (h : Fit st []) : st = [] := by
  cases h
  rfl
theorem Fit.two {st : List (Option Tr)} {hs : List Nat} (h : Fit st (2 :: hs)) : ∃ r l st', st = some r :: some l :: none :: st' ∧ Fit st' hs := by
  cases h with
  | add h =>
    cases h with
    | add h =>
      cases h with
      | opn h => exact ⟨_, _, _, rfl, h⟩
/-- how the two states stand -/
def Two (s : LS) (n : NS) : Prop := n.names = s.used ∧ ((n.ended = false ∧ ∃ hs, n.halves = hs.reverse ∧ Fit s.st hs) ∨ (n.ended = true ∧ ∃ t, s.st = [some t]))
theorem nm_grow {P : Wd → Bool} {s s' : NS} {w : Wd} (e : nm P s w = some s') : ∃ r, s'.names = s.names ++ r := by
  unfold nm at e
  split at e
  · cases e
  · split at e
    · cases e
      exact ⟨[], by simp⟩
    · split at e
      · split at e
        · cases e
          unfold close
          split
          · exact ⟨[w], rfl⟩
          · exact ⟨[w], rfl⟩
        · cases e
      · split at e
        · cases e
          unfold close
          split
          · exact ⟨[], by simp⟩
          · exact ⟨[], by simp⟩
        · cases e
theorem nmAll_grow {P : Wd → Bool} : ∀ {ws : List Wd} {s s' : NS}, nmAll P ws s = some s' → ∃ r, s'.names = s.names ++ r
  | [], s, s', e => by
    cases e
    exact ⟨[], by simp⟩
  | w :: r, s, s', e => by
    unfold nmAll at e
    split at e
    · cases e
    · rename_i s1 e1
      obtain ⟨r1, h1⟩ := nm_grow e1
      obtain ⟨r2, h2⟩ := nmAll_grow e
      exact ⟨r1 ++ r2, by rw [h2, h1, List.append_assoc]⟩
/-- what namesOf tells from a state on -/
def finN (P : Wd → Bool) (ws : List Wd) (n : NS) : Option (List Wd) := match nmAll P ws n with
  | none => none
  | some s => if s.ended = true ∧ s.names.Nodup then some s.names else none
theorem finN_dup {P : Wd → Bool} {ws : List Wd} {n : NS} (h : ¬ n.names.Nodup) : finN P ws n = none := by
  unfold finN
  split
  · rfl
  · rename_i s e
    obtain ⟨r, hr⟩ := nmAll_grow e
    rw [if_neg]
    rintro ⟨_, nd⟩
    rw [hr] at nd
    exact h (List.nodup_append.mp nd).1
theorem finN_cons {P : Wd → Bool} {w : Wd} {r : List Wd} {n : NS} : finN P (w :: r) n = (match nm P n w with | none => none | some s => finN P r s) := by
  unfold finN
  show (match (match nm P n w with | none => none | some s' => nmAll P r s') with | none => none | some s => _) = _
  cases nm P n w <;> rfl
def finR (P : Wd → Bool) (ws : List Wd) (s : LS) : Option (List Wd × Tr) := match rdAll P ws s with
  | some s => endOf s
  | none => none
theorem finR_cons {P : Wd → Bool} {w : Wd} {r : List Wd} {s : LS} : finR P (w :: r) s = (match rd P s w with | none => none | some s => finR P r s) := by
  unfold finR
  show (match (match rd P s w with | none => none | some s' => rdAll P r s') with | some s => endOf s | none => none) = _
  cases rd P s w <;> rfl
theorem two_none {P : Wd → Bool} : ∀ {ws : List Wd} {s : LS} {n : NS}, Two s n → finR P ws s = none → finN P ws n = none
  | [], s, n, ⟨hu, h⟩, e => by
    unfold finN
    show (if n.ended = true ∧ n.names.Nodup then some n.names else none) = none
    rw [if_neg]
    rintro ⟨he, _⟩
    rcases h with ⟨h1, _⟩ | ⟨_, t, ht⟩
    · rw [h1] at he
      cases he
    · unfold finR at e
      have e : endOf s = none := e
      unfold endOf at e
      rw [ht] at e
      cases e
  | w :: r, s, n, ⟨hu, h⟩, e => by
    rw [finN_cons]
    rw [finR_cons] at e
    rcases h with ⟨he, hs, hh, fit⟩ | ⟨he, _⟩
    · by_cases c1 : w = [40]
      · have e1 : rd P s w = some ⟨s.used, none :: s.st⟩ := by unfold rd; rw [if_pos c1]
        have e2 : nm P n w = some ⟨n.names, n.halves ++ [0], false⟩ := by
          unfold nm
          rw [if_neg (by rw [he]; decide), if_pos c1]
        rw [e1] at e
        rw [e2]
        exact two_none (s := ⟨s.used, none :: s.st⟩) ⟨hu, .inl ⟨rfl, 0 :: hs, by rw [hh]; simp, fit.opn⟩⟩ e
      by_cases c2 : w = [41]
      · by_cases c3 : ∃ hs', hs = 2 :: hs'
        · obtain ⟨hs', rfl⟩ := c3
          obtain ⟨rr, l, st', hst, fit'⟩ := fit.two
          have e1 : rd P s w = some ⟨s.used, some (node l rr) :: st'⟩ := by
            unfold rd
            rw [if_neg c1, if_pos c2, hst]
          have e2 : nm P n w = some (close n.names hs'.reverse) := by
            unfold nm
            rw [if_neg (by rw [he]; decide), if_neg c1, if_neg (by rw [c2]; simp), hh]
            simp
          rw [e1] at e
          rw [e2]
          refine two_none (s := ⟨s.used, some (node l rr) :: st'⟩) ?_ e
          cases hs' with
          | nil =>
            rw [fit'.nil_inv]
            exact ⟨hu, .inr ⟨rfl, _, rfl⟩⟩
          | cons h1 hs1 =>
            have : close n.names (h1 :: hs1).reverse = ⟨n.names, hs1.reverse ++ [h1 + 1], false⟩ := by
              rw [List.reverse_cons, close_open]
            rw [this]
            exact ⟨hu, .inl ⟨rfl, (h1 + 1) :: hs1, by simp, fit'.add⟩⟩
        · have e2 : nm P n w = none := by
            unfold nm
            rw [if_neg (by rw [he]; decide), if_neg c1, if_neg (by rw [c2]; simp), if_neg]
            rw [hh, List.getLast?_reverse]
            intro z
            cases hs with
            | nil => cases z
            | cons a b =>
              cases z
              exact c3 ⟨b, rfl⟩
          rw [e2]
      by_cases c3 : P w = true
      · have e2 : nm P n w = some (close (n.names ++ [w]) n.halves) := by
          unfold nm
          rw [if_neg (by rw [he]; decide), if_neg c1, if_pos c2, if_pos c3]
        rw [e2]
        by_cases c4 : w ∈ s.used
        · show finN P r (close (n.names ++ [w]) n.halves) = none
          refine finN_dup ?_
          have : (close (n.names ++ [w]) n.halves).names = n.names ++ [w] := by
            unfold close
            split <;> rfl
          rw [this, hu, List.nodup_append]
          exact fun z => z.2.2 w c4 w (by simp) rfl
        · have e1 : rd P s w = some ⟨s.used ++ [w], some (leaf w) :: s.st⟩ := by
            unfold rd
            rw [if_neg c1, if_neg c2, if_pos ⟨c3, c4⟩]
          rw [e1] at e
          refine two_none (s := ⟨s.used ++ [w], some (leaf w) :: s.st⟩) ?_ e
          rw [hh]
          cases hs with
          | nil =>
            rw [fit.nil_inv]
            exact ⟨by rw [hu]; rfl, .inr ⟨rfl, _, rfl⟩⟩
          | cons h1 hs1 =>
            have : close (n.names ++ [w]) (h1 :: hs1).reverse = ⟨n.names ++ [w], hs1.reverse ++ [h1 + 1], false⟩ := by
              rw [List.reverse_cons, close_open]
            rw [this]
            exact ⟨by rw [hu], .inl ⟨rfl, (h1 + 1) :: hs1, by simp, fit.add⟩⟩
      · have e2 : nm P n w = none := by
          unfold nm
          rw [if_neg (by rw [he]; decide), if_neg c1, if_pos c2, if_neg c3]
        rw [e2]
    · have e2 : nm P n w = none := by
        unfold nm
        rw [if_pos he]
      rw [e2]
theorem read_none {P : Wd → Bool} {ws : List Wd} (h : readOf P ws = none) : namesOf P ws = none := two_none (s := ⟨[], []⟩) (n := ⟨[], [], false⟩) ⟨rfl, .inl ⟨rfl, [], rfl, .nil⟩⟩ h
/-- a tree's tokens are read -/
theorem read_some {P : Wd → Bool} (hn : ∀ w, P w = true → Name w) {t : Tr} (g : Good P t) (nd : (leaves t).Nodup) : readOf P (toks t) = some (leaves t, t) := by
  cases e : readOf P (toks t) with
  | none =>
    have h1 := read_none e
    rw [names_toks g nd] at h1
    cases h1
  | some p =>
    obtain ⟨u, t'⟩ := p
    obtain ⟨h1, h2, h3, h4⟩ := read_sound hn e
    have e2 : spell t = spell t' := by
      rw [← text_toks g.ok, ← text_toks h3.ok, h1]
    have := spell_inj g.ok h3.ok e2
    subst this
    rw [h2]
end P20

set_option Elab.async false
set_option linter.all false
set_option maxRecDepth 100000
set_option maxHeartbeats 4000000
/-! K20: the bag and what is drawn from it -/
namespace W20
open PySem PySem.Spec PyProof.Rows L2 Lay
open SX (S S_len S_cat S_tl)
open C8 (Cal pe_c pe_gc fnScope_by E0 sl_txt rSlX)
/-- the bag at b, as this law lays it -/
def Bag (H : Hp) (b : Addr) : Prop := ∃ (l : Addr) (ns : List Int) (pos : Nat) (big mixed cnt left : Int), H b = some (.lst [.ref l, .int (pos : Int), .int big, .int left, .int mixed, .int cnt]) ∧ H l = some (.lst (ns.map V.int)) ∧ l ≠ b ∧ 0 ≤ mixed ∧ mixed < 2147483587
/-- all but the bag stays -/
structure Ex (b : Addr) (H H' : Hp) : Prop where
  keep : ∀ a o, a ≠ b → H a = some o → H' a = some o
  bag : Bag H' b
  list : ∀ l r, H b = some (.lst (.ref l :: r)) → ∃ r', H' b = some (.lst (.ref l :: r'))
section
variable {P : Program} {w : World} {K : PySem.W.Frag} {mg : Str → Option Value} {base : Heap} {f : Addr} {fd : FuncData}
theorem sc39 : FnScope ["script", "mixed", "item"] ["script"] (defScope (top 35)) := fnScope_by (by decide +kernel)
def spBag (K : PySem.W.Frag) : Sp := fun vs H Q _ => ∃ (a : Addr) (ns : List Int), vs = [.ref a] ∧ SqL K H a (ns.map V.int) ∧ ∀ H' b, Same H H' → H b = none → Bag H' b → Q (.ref b) H'
theorem ok_bag (m : Mg K mg) (F : Fn K "_law_bag" 35 f fd) (g : mg "_law_bag" = some (.ref f)) : Cal P w K mg base 1 "_law_bag" (spBag K) [] := by
  have sc := sc39
  refine calD F g sc (fun _ _ _ _ _ _ us hl => match us, hl with | [_], _ => rfl) ?_ fun cdv A outer s H vs Q E hr h => ?_
  · rintro vs H Q E ⟨x, _, rfl, _⟩
    rfl
  · obtain ⟨a, ns, rfl, hS, q⟩ := h
    refine ⟨_, (pss_cons (ps_set (i := 1) sc.nd rfl (.inl rfl) pe_int)
      (pss_cons (ps_for pown rfl (pi_list (pe_slice sl_list (pv 0) po_none (po_some pe_int))) (pg_name (i := 2) sc.nd rfl (.inl rfl))
        (pss_one (ps_set (i := 1) sc.nd rfl (.inl rfl) (pe_op op_mod (pe_callTy call_int1 (by rfl) m.int_ boot_int (pa_cons (pe_op op_add (pe_op op_add (pe_op op_mul (pv 1) pe_int) (pe_op op_mod (pe_callTy call_int1 (by rfl) m.int_ boot_int (pa_cons (pv 2) pa_nil)) pe_int)) pe_int) pa_nil)) pe_int))))
      (pss_one (ps_ret (pe_lst (pa_cons (pe_callTy call_list_of (by rfl) m.list_ boot_list (pa_cons (pe_slice sl_list (pv 0) po_none (po_some pe_int)) pa_nil)) (pa_cons pe_int (pa_cons pe_int (pa_cons pe_int (pa_cons (pv 1) (pa_cons pe_int pa_nil))))))))))), ?_⟩
    simp only [L2.start, cxOf, tRet, tAndV, tOrV, tNotV, tCB, tCons, tNil, tVar, tC, tOp, tUn, tTest, tB, tSeq, tAsg, tNot, gName, tNext, tCall, tChain, rI, rI0, rEq, rNe, rGcd, rU, tM1, tM0, tSl, tFmtB, tJs, tPart, tNoPart, gTup, gCons, gNil, gSub, tTup, tLst, tPar, L2.rI, List.map_cons, List.map_nil, List.length_cons, List.length_nil, List.cons_append, List.nil_append, List.append_nil, List.getElem?_cons_zero, List.getElem?_cons_succ, List.set_cons_zero, List.set_cons_succ, Option.some.injEq, exists_eq_left, exists_eq_left', exists_eq_right, exists_and_left, exists_and_right, List.cons.injEq, and_true, true_and, V.int.injEq, V.str.injEq, V.bl.injEq, V.ref.injEq, List.replicate, Nat.reduceAdd, Nat.reduceSub, reduceCtorEq, false_and, and_false, if_true, if_false, Bool.false_eq_true, Bool.not_true, Bool.not_false, decide_eq_true_eq, exists_false, or_false, false_or]
    have md : ∀ z : Int, 0 ≤ z % 2147483587 ∧ z % 2147483587 < 2147483587 := fun z => ⟨Int.emod_nonneg _ (by decide), Int.emod_lt_of_pos _ (by decide)⟩
    have cutI : ∀ ns' : List Int, ∃ ms : List Int, cutV (ns'.map V.int) none (some 63) = ms.map V.int := fun ns' => by
      unfold cutV
      rw [← List.map_drop, ← List.map_take]
      exact ⟨_, rfl⟩
    obtain ⟨ms, hms⟩ := cutI ns
    refine for_list_made (o := fun H _ => H) (xs := ms.map V.int) (fun R k => ?_) (fun l hl => ?_)
    · simp only [L2.start, cxOf, tRet, tAndV, tOrV, tNotV, tCB, tCons, tNil, tVar, tC, tOp, tUn, tTest, tB, tIf, tIfS, tSeq, tAsg, tAnd, tOr, tNot, gName, tNext, tCall, tChain, rI, rI0, rEq, rNe, rGcd, rU, tM1, tM0, tSl, tFmtB, tJs, tPart, tNoPart, gTup, gCons, gNil, gSub, tTup, tLst, tPar, L2.rI, List.map_cons, List.map_nil, List.length_cons, List.length_nil, List.cons_append, List.nil_append, List.append_nil, List.getElem?_cons_zero, List.getElem?_cons_succ, List.set_cons_zero, List.set_cons_succ, Option.some.injEq, exists_eq_left, exists_eq_left', exists_eq_right, exists_and_left, exists_and_right, List.cons.injEq, and_true, true_and, V.int.injEq, V.str.injEq, V.bl.injEq, V.ref.injEq, List.replicate, Nat.reduceAdd, Nat.reduceSub, reduceCtorEq, false_and, and_false, if_true, if_false, Bool.false_eq_true, Bool.not_true, Bool.not_false, decide_eq_true_eq, exists_false, or_false, false_or, rSlL]
      exact ⟨_, hS, fun p hp => by rw [hms]; exact k p hp⟩
    · have s0 : Same H (upd H l (.lst (ms.map V.int))) := same_new hl
      have l0 : (upd H l (.lst (ms.map V.int))) l = some (.lst (ms.map V.int)) := upd_same
      refine ⟨fun i σ' H' => Same (upd H l (.lst (ms.map V.int))) H' ∧ ∃ x y, σ' = [some (.ref a), some (.int x), y] ∧ 0 ≤ x ∧ x < 2147483587, ⟨Same.refl _, 17788, none, rfl, by decide, by decide⟩, fun i σ' H' _ hP => SqL.of (hP.1 _ _ l0), ?_, ?_⟩
      · rintro i x σ' H' hx ⟨s1, y, z, rfl, y1, y2⟩
        obtain ⟨v, rfl⟩ : ∃ v, x = .int v := by
          rw [List.getElem?_map] at hx
          cases e : ms[i]? with
          | none => rw [e] at hx; cases hx
          | some v => rw [e] at hx; exact ⟨v, (Option.some.inj hx).symm⟩
        simp only [L2.start, cxOf, tRet, tAndV, tOrV, tNotV, tCB, tCons, tNil, tVar, tC, tOp, tUn, tTest, tB, tIf, tIfS, tSeq, tAsg, tAnd, tOr, tNot, gName, tNext, tCall, tChain, rI, rI0, rEq, rNe, rGcd, rU, tM1, tM0, tSl, tFmtB, tJs, tPart, tNoPart, gTup, gCons, gNil, gSub, tTup, tLst, tPar, L2.rI, List.map_cons, List.map_nil, List.length_cons, List.length_nil, List.cons_append, List.nil_append, List.append_nil, List.getElem?_cons_zero, List.getElem?_cons_succ, List.set_cons_zero, List.set_cons_succ, Option.some.injEq, exists_eq_left, exists_eq_left', exists_eq_right, exists_and_left, exists_and_right, List.cons.injEq, and_true, true_and, V.int.injEq, V.str.injEq, V.bl.injEq, V.ref.injEq, List.replicate, Nat.reduceAdd, Nat.reduceSub, reduceCtorEq, false_and, and_false, if_true, if_false, Bool.false_eq_true, Bool.not_true, Bool.not_false, decide_eq_true_eq, exists_false, or_false, false_or]
        exact ⟨.inr (by decide), by decide, by decide, s1, _, ⟨rfl, _, rfl⟩, (md _).1, (md _).2⟩
      · rintro σ' H' ⟨s1, y, z, rfl, y1, y2⟩
        simp only [L2.start, cxOf, tRet, tAndV, tOrV, tNotV, tCB, tCons, tNil, tVar, tC, tOp, tUn, tTest, tB, tIf, tIfS, tSeq, tAsg, tAnd, tOr, tNot, gName, tNext, tCall, tChain, rI, rI0, rEq, rNe, rGcd, rU, tM1, tM0, tSl, tFmtB, tJs, tPart, tNoPart, gTup, gCons, gNil, gSub, tTup, tLst, tPar, L2.rI, List.map_cons, List.map_nil, List.length_cons, List.length_nil, List.cons_append, List.nil_append, List.append_nil, List.getElem?_cons_zero, List.getElem?_cons_succ, List.set_cons_zero, List.set_cons_succ, Option.some.injEq, exists_eq_left, exists_eq_left', exists_eq_right, exists_and_left, exists_and_right, List.cons.injEq, and_true, true_and, V.int.injEq, V.str.injEq, V.bl.injEq, V.ref.injEq, List.replicate, Nat.reduceAdd, Nat.reduceSub, reduceCtorEq, false_and, and_false, if_true, if_false, Bool.false_eq_true, Bool.not_true, Bool.not_false, decide_eq_true_eq, exists_false, or_false, false_or, rSlL]
        have s2 := s0.trans s1
        refine ⟨_, s2.seq hS, fun p hp => ?_⟩
        rw [hms]
        refine ⟨_, .inl (SqL.of upd_same), fun l2 hl2 => ⟨small (by decide), fun b hb => ?_⟩⟩
        have s3 := (s2.trans (same_new hp)).trans (same_new (o := .lst (ms.map V.int)) hl2)
        have s4 := s3.trans (same_new (o := .lst [V.ref l2, V.int 0, V.int 0, V.int 0, V.int y, V.int 0]) hb)
        have nb : l2 ≠ b := fun z => by
          rw [← z, upd_same] at hb
          cases hb
        exact q _ b s4 (s3.free hb) ⟨l2, ms, 0, 0, y, 0, 0, upd_same, by rw [upd_ne nb]; exact upd_same, nb, y1, y2⟩
theorem sc40 : FnScope ["bag", "size", "item", "digit"] ["bag", "size"] (defScope (top 36)) := fnScope_by (by decide +kernel)
def spDraw : Sp := fun vs H Q _ => ∃ b size, vs = [.ref b, .int size] ∧ Bag H b ∧ 0 < size ∧ size < 1073741824 ∧ ∀ H' d, Ex b H H' → 0 ≤ d → d < size → Q (.int d) H'
theorem ok_draw (m : Mg K mg) (F : Fn K "_law_draw" 36 f fd) (g : mg "_law_draw" = some (.ref f)) : Cal P w K mg base 1 "_law_draw" spDraw [] := by
  have sc := sc40
  refine calD F g sc (fun _ _ _ _ _ _ us hl => match us, hl with | [_, _], _ => rfl) ?_ fun cdv A outer s H vs Q E hr h => ?_
  · rintro vs H Q E ⟨x, _, rfl, _⟩
    rfl
  · obtain ⟨b, size, rfl, bag, p1, p2, q⟩ := h
    refine ⟨_, (pss_cons (ps_asg (pe_op op_add (pe_ix ix_list (pv 0) pe_int (fun _ _ => rfl)) pe_int) (pg_sub (pv 0) pe_int set_list))
      (pss_cons (ps_if ((pw_and (pt_cmpR op_eq (pe_ix ix_list (pv 0) pe_int (fun _ _ => rfl)) pe_int (nomark _)) (pw_and1 (pt_cmpR op_lt (pe_ix ix_list (pv 0) pe_int (fun _ _ => rfl)) (pe_callB call_len (by rfl) m.len_ boot_len (pa_cons (pe_ix ix_list (pv 0) pe_int (fun _ _ => rfl)) pa_nil)) (nomark _))))).pt
        (pss_cons (ps_set (i := 2) sc.nd rfl (.inl rfl) (pe_ix ix_list (pe_ix ix_list (pv 0) pe_int (fun _ _ => rfl)) (pe_ix ix_list (pv 0) pe_int (fun _ _ => rfl)) (fun _ _ => rfl)))
        (pss_cons (ps_asg (pe_op op_add (pe_ix ix_list (pv 0) pe_int (fun _ _ => rfl)) pe_int) (pg_sub (pv 0) pe_int set_list))
        (pss_one (ps_if (pt_cmpR op_ge (pv 2) (pe_op op_pow pe_int pe_int) (nomark _))
          (pss_cons (ps_asg (pv 2) (pg_sub (pv 0) pe_int set_list))
          (pss_one (ps_asg pe_int (pg_sub (pv 0) pe_int set_list))))
          (pss_one (ps_asg (pe_op op_mod (pe_callTy call_int1 (by rfl) m.int_ boot_int (pa_cons (pe_op op_add (pe_op op_add (pe_op op_mul (pe_ix ix_list (pv 0) pe_int (fun _ _ => rfl)) pe_int) (pe_op op_mul (pe_op op_mod (pe_callTy call_int1 (by rfl) m.int_ boot_int (pa_cons (pv 2) pa_nil)) pe_int) pe_int)) pe_int) pa_nil)) pe_int) (pg_sub (pv 0) pe_int set_list)))))))
        pss_nil)
      (pss_cons (ps_if (pt_cmpR op_gt (pe_ix ix_list (pv 0) pe_int (fun _ _ => rfl)) pe_int (nomark _))
        (pss_cons (ps_set (i := 3) sc.nd rfl (.inl rfl) (pe_op op_mod (pe_callTy call_int1 (by rfl) m.int_ boot_int (pa_cons (pe_ix ix_list (pv 0) pe_int (fun _ _ => rfl)) pa_nil)) (pv 1)))
        (pss_cons (ps_asg (pe_op op_sub (pe_ix ix_list (pv 0) pe_int (fun _ _ => rfl)) pe_int) (pg_sub (pv 0) pe_int set_list))
        (pss_cons (ps_asg (pe_ifExp (pt_cmpR op_gt (pe_ix ix_list (pv 0) pe_int (fun _ _ => rfl)) pe_int (nomark _)) (pe_op op_fdiv (pe_ix ix_list (pv 0) pe_int (fun _ _ => rfl)) (pv 1)) pe_int) (pg_sub (pv 0) pe_int set_list))
        (pss_one (ps_ret (pv 3))))))
        pss_nil)
      (pss_cons (ps_asg (pe_op op_mod (pe_callTy call_int1 (by rfl) m.int_ boot_int (pa_cons (pe_op op_add (pe_op op_add (pe_op op_pow (pe_ix ix_list (pv 0) pe_int (fun _ _ => rfl)) pe_int) (pe_op op_mul (pe_ix ix_list (pv 0) pe_int (fun _ _ => rfl)) pe_int)) pe_int) pa_nil)) pe_int) (pg_sub (pv 0) pe_int set_list))
      (pss_one (ps_ret (pe_op op_mod (pe_callTy call_int1 (by rfl) m.int_ boot_int (pa_cons (pe_op op_add (pe_op op_fdiv (pe_ix ix_list (pv 0) pe_int (fun _ _ => rfl)) pe_int) (pe_op op_mul (pe_op op_mod (pe_callTy call_int1 (by rfl) m.int_ boot_int (pa_cons (pe_ix ix_list (pv 0) pe_int (fun _ _ => rfl)) pa_nil)) pe_int) pe_int)) pa_nil)) (pv 1)))))))), ?_⟩
    obtain ⟨l, ns, pos, big, mixed, cnt, left, hb, hl, nb, m1, m2⟩ := bag
    -- the bag's list, all else as at the entry
    have done : ∀ H' pos' big' mixed' cnt' left' d, (∀ a o, a ≠ b → H a = some o → H' a = some o) → H' b = some (.lst [.ref l, .int ((pos' : Nat) : Int), .int big', .int left', .int mixed', .int cnt']) → 0 ≤ mixed' → mixed' < 2147483587 → 0 ≤ d → d < size → Q (.int d) H' :=
      fun H' pos' big' mixed' cnt' left' d k h1 h2 h3 h4 h5 => q H' d ⟨k, ⟨l, ns, pos', big', mixed', cnt', left', h1, k _ _ nb hl, nb, h2, h3⟩, fun l2 r e => by
        rw [hb] at e
        cases e
        exact ⟨_, h1⟩⟩ h4 h5
    have set : ∀ {H' : Hp} {o : HO}, (∀ a o, a ≠ b → H a = some o → H' a = some o) → ∀ a u, a ≠ b → H a = some u → (upd H' b o) a = some u := fun k a u n e => by
      rw [upd_ne n]
      exact k a u n e
    have md : ∀ z : Int, 0 ≤ z % 2147483579 ∧ z % 2147483579 < 2147483587 := fun z => ⟨Int.emod_nonneg _ (by decide), Int.lt_trans (Int.emod_lt_of_pos _ (by decide)) (by decide)⟩
    have sm : ∀ {i c : Int}, -(2 ^ 64) < c ∧ c < 2 ^ 64 → CMul i c := fun h => .inr h
    refine seq_cut (fun σ' H' => σ' = [some (.ref b), some (.int size), none, none] ∧ (∀ a o, a ≠ b → H a = some o → H' a = some o) ∧ H' b = some (.lst [.ref l, .int (pos : Int), .int big, .int left, .int mixed, .int (cnt + 1)])) ?_ ?_
    · intro D' e nx
      simp only [L2.start, cxOf, tRet, tAndV, tOrV, tNotV, tCB, tCons, tNil, tVar, tC, tOp, tUn, tTest, tB, tIf, tIfS, tSeq, tAsg, tAnd, tOr, tNot, gName, tNext, tCall, tChain, rI, rI0, rEq, rNe, rGcd, rU, tM1, tM0, tSl, tFmtB, tJs, tPart, tNoPart, gTup, gCons, gNil, gSub, tTup, tLst, tPar, L2.rI, List.map_cons, List.map_nil, List.length_cons, List.length_nil, List.cons_append, List.nil_append, List.append_nil, List.getElem?_cons_zero, List.getElem?_cons_succ, List.set_cons_zero, List.set_cons_succ, Option.some.injEq, exists_eq_left, exists_eq_left', exists_eq_right, exists_and_left, exists_and_right, List.cons.injEq, and_true, true_and, V.int.injEq, V.str.injEq, V.bl.injEq, V.ref.injEq, List.replicate, Nat.reduceAdd, Nat.reduceSub, reduceCtorEq, false_and, and_false, if_true, if_false, Bool.false_eq_true, Bool.not_true, Bool.not_false, decide_eq_true_eq, exists_false, or_false, false_or]
      exact ixL (SqL.of hb) 5 rfl ⟨cnt, rfl, setL hb 5 (by simp) (nx _ _ ⟨rfl, set fun _ _ _ h => h, upd_same⟩)⟩
    · rintro σ' H1 ⟨rfl, k1, b1⟩
      refine seq_cut (fun σ' H' => (∃ y, σ' = [some (.ref b), some (.int size), y, none]) ∧ (∀ a o, a ≠ b → H a = some o → H' a = some o) ∧ ∃ (pos' : Nat) (big' mixed' left' : Int), 0 ≤ mixed' ∧ mixed' < 2147483587 ∧ H' b = some (.lst [.ref l, .int (pos' : Int), .int big', .int left', .int mixed', .int (cnt + 1)])) ?_ ?_
      · intro D' e nx
        simp only [L2.start, cxOf, tRet, tAndV, tOrV, tNotV, tCB, tCons, tNil, tVar, tC, tOp, tUn, tTest, tB, tIf, tIfS, tSeq, tAsg, tAnd, tOr, tNot, gName, tNext, tCall, tChain, rI, rI0, rEq, rNe, rGcd, rU, tM1, tM0, tSl, tFmtB, tJs, tPart, tNoPart, gTup, gCons, gNil, gSub, tTup, tLst, tPar, L2.rI, List.map_cons, List.map_nil, List.length_cons, List.length_nil, List.cons_append, List.nil_append, List.append_nil, List.getElem?_cons_zero, List.getElem?_cons_succ, List.set_cons_zero, List.set_cons_succ, Option.some.injEq, exists_eq_left, exists_eq_left', exists_eq_right, exists_and_left, exists_and_right, List.cons.injEq, and_true, true_and, V.int.injEq, V.str.injEq, V.bl.injEq, V.ref.injEq, List.replicate, Nat.reduceAdd, Nat.reduceSub, reduceCtorEq, false_and, and_false, if_true, if_false, Bool.false_eq_true, Bool.not_true, Bool.not_false, decide_eq_true_eq, exists_false, or_false, false_or]
        refine ixL (SqL.of b1) 2 rfl ⟨rfl, ?_⟩
        have stay : D'.nx [some (.ref b), some (.int size), none, none] H1 := nx _ _ ⟨⟨none, rfl⟩, k1, pos, big, mixed, left, m1, m2, b1⟩
        by_cases h0 : V.int big = V.int 0
        · rw [if_pos h0]
          have l1 : SqL K H1 l (ns.map V.int) := SqL.of (k1 _ _ nb hl)
          refine ixL (SqL.of b1) 1 rfl (ixL (SqL.of b1) 0 rfl ⟨_, len_L l1, pos, rfl, ?_⟩)
          by_cases hp : (pos : Int) < ((ns.map V.int).length : Int)
          · rw [if_pos hp]
            have hlt : pos < ns.length := by
              rw [List.length_map] at hp
              omega
            have it : (ns.map V.int)[pos]? = some (.int ns[pos]) := by
              rw [List.getElem?_map, List.getElem?_eq_getElem hlt] <;> rfl
            refine ixL (SqL.of b1) 0 rfl (ixL (SqL.of b1) 1 rfl (ixL l1 pos it (ixL (SqL.of b1) 1 rfl ⟨(pos : Int), rfl, setL b1 1 (by simp) ⟨⟨by decide, by decide, by decide⟩, ns[pos], rfl, ?_⟩⟩)))
            have k2 : ∀ a o, a ≠ b → H a = some o → (upd H1 b (.lst ([V.ref l, V.int (pos : Int), V.int big, V.int left, V.int mixed, V.int (cnt + 1)].set 1 (V.int ((pos : Int) + 1))))) a = some o := set k1
            have b2 : (upd H1 b (.lst ([V.ref l, V.int (pos : Int), V.int big, V.int left, V.int mixed, V.int (cnt + 1)].set 1 (V.int ((pos : Int) + 1))))) b = some (.lst [V.ref l, V.int ((pos + 1 : Nat) : Int), V.int big, V.int left, V.int mixed, V.int (cnt + 1)]) := upd_same
            revert k2 b2
            generalize upd H1 b (.lst ([V.ref l, V.int (pos : Int), V.int big, V.int left, V.int mixed, V.int (cnt + 1)].set 1 (V.int ((pos : Int) + 1)))) = H2
            intro k2 b2
            by_cases hbig : (10 : Int) ^ Int.toNat 18 ≤ ns[pos]
            · rw [if_pos hbig]
              refine setL b2 2 (by simp) ?_
              refine setL (xs := [V.ref l, V.int ((pos + 1 : Nat) : Int), V.int ns[pos], V.int left, V.int mixed, V.int (cnt + 1)]) upd_same 3 (by simp) ?_
              exact nx _ _ ⟨⟨_, rfl⟩, set (set k2), pos + 1, ns[pos], mixed, 60, m1, m2, upd_same⟩
            · rw [if_neg hbig]
              refine ixL (SqL.of b2) 4 rfl ⟨mixed, rfl, sm (by decide), .inl ⟨_, rfl, by decide, sm (by decide), by decide, ?_⟩⟩
              exact setL b2 4 (by simp) (nx _ _ ⟨⟨_, rfl⟩, set k2, pos + 1, big, _, left, (md _).1, (md _).2, upd_same⟩)
          · rw [if_neg hp]
            exact stay
        · rw [if_neg h0]
          exact stay
      · rintro σ' H2 ⟨⟨y, rfl⟩, k2, pos', big', mixed', left', n1, n2, b2⟩
        simp only [L2.start, cxOf, tRet, tAndV, tOrV, tNotV, tCB, tCons, tNil, tVar, tC, tOp, tUn, tTest, tB, tIf, tIfS, tSeq, tAsg, tAnd, tOr, tNot, gName, tNext, tCall, tChain, rI, rI0, rEq, rNe, rGcd, rU, tM1, tM0, tSl, tFmtB, tJs, tPart, tNoPart, gTup, gCons, gNil, gSub, tTup, tLst, tPar, L2.rI, List.map_cons, List.map_nil, List.length_cons, List.length_nil, List.cons_append, List.nil_append, List.append_nil, List.getElem?_cons_zero, List.getElem?_cons_succ, List.set_cons_zero, List.set_cons_succ, Option.some.injEq, exists_eq_left, exists_eq_left', exists_eq_right, exists_and_left, exists_and_right, List.cons.injEq, and_true, true_and, V.int.injEq, V.str.injEq, V.bl.injEq, V.ref.injEq, List.replicate, Nat.reduceAdd, Nat.reduceSub, reduceCtorEq, false_and, and_false, if_true, if_false, Bool.false_eq_true, Bool.not_true, Bool.not_false, decide_eq_true_eq, exists_false, or_false, false_or]
        refine ixL (SqL.of b2) 2 rfl ⟨big', rfl, ?_⟩
        by_cases hg : 0 < big'
        · rw [if_pos hg]
          refine ixL (SqL.of b2) 2 rfl (.inl ⟨big', rfl, p1, ?_⟩)
          refine ixL (SqL.of b2) 3 rfl ⟨left', rfl, setL b2 3 (by simp) ?_⟩
          have dg : 0 ≤ big' % size ∧ big' % size < size := ⟨Int.emod_nonneg _ (by omega), Int.emod_lt_of_pos _ p1⟩
          have b3 : (upd H2 b (.lst ([V.ref l, V.int (pos' : Int), V.int big', V.int left', V.int mixed', V.int (cnt + 1)].set 3 (V.int (left' - 1))))) b = some (.lst [V.ref l, V.int (pos' : Int), V.int big', V.int (left' - 1), V.int mixed', V.int (cnt + 1)]) := upd_same
          refine ixL (SqL.of b3) 3 rfl ⟨left' - 1, rfl, ?_⟩
          by_cases h5 : 0 < left' - 1
          · rw [if_pos h5]
            exact ixL (SqL.of b3) 2 rfl ⟨big', rfl, ⟨p1, p2⟩, setL b3 2 (by simp) (done _ pos' _ _ _ _ _ (set (set k2)) upd_same n1 n2 dg.1 dg.2)⟩
          · rw [if_neg h5]
            exact setL b3 2 (by simp) (done _ pos' _ _ _ _ _ (set (set k2)) upd_same n1 n2 dg.1 dg.2)
        · rw [if_neg hg]
          refine ixL (SqL.of b2) 4 rfl ⟨mixed', rfl, ⟨by decide, by decide, by omega⟩, ?_⟩
          refine ixL (SqL.of b2) 5 rfl ⟨cnt + 1, rfl, sm (by decide), ?_⟩
          refine ⟨by decide, setL b2 4 (by simp) ?_⟩
          generalize hz : (mixed' ^ Int.toNat 3 + (cnt + 1) * 1299721 + 60013) % 2147483579 = z
          have mz := md (mixed' ^ Int.toNat 3 + (cnt + 1) * 1299721 + 60013)
          rw [hz] at mz
          have b3 : (upd H2 b (.lst ([V.ref l, V.int (pos' : Int), V.int big', V.int left', V.int mixed', V.int (cnt + 1)].set 4 (V.int z)))) b = some (.lst [V.ref l, V.int (pos' : Int), V.int big', V.int left', V.int z, V.int (cnt + 1)]) := upd_same
          refine ixL (SqL.of b3) 4 rfl ⟨z, rfl, ⟨by decide, by decide⟩, ixL (SqL.of b3) 4 rfl (.inl ⟨z, rfl, by decide, sm (by decide), p1, ?_⟩)⟩
          exact done _ pos' _ _ _ _ _ (set k2) b3 mz.1 mz.2 (Int.emod_nonneg _ (by omega)) (Int.emod_lt_of_pos _ p1)
end
end W20

set_option Elab.async false
set_option linter.all false
set_option maxRecDepth 100000
set_option maxHeartbeats 4000000
/-! L20: one of a list's or a text's items -/
namespace W20
open PySem PySem.Spec PyProof.Rows L2 Lay
open SX (S S_len S_cat S_tl)
open C8 (Cal pe_c pe_gc fnScope_by E0 sl_txt rSlX)
section
variable {P : Program} {w : World} {K : PySem.W.Frag} {mg : Str → Option Value} {base : Heap} {f : Addr} {fd : FuncData}
theorem sc41 : FnScope ["bag", "things"] ["bag", "things"] (defScope (top 37)) := fnScope_by (by decide +kernel)
def spPick : Sp := fun vs H Q _ => ∃ (b : Addr) (v : V), vs = [.ref b, v] ∧ Bag H b ∧ ((∃ (l : Addr) (xs : List V), v = .ref l ∧ H l = some (.lst xs) ∧ l ≠ b ∧ 0 < xs.length ∧ xs.length ≤ 1000 ∧ ∀ H' x, Ex b H H' → x ∈ xs → Q x H') ∨
  ∃ a : List Nat, v = .str (S a) ∧ 0 < a.length ∧ a.length ≤ 1000 ∧ ∀ H' c, Ex b H H' → c ∈ a → Q (.str (S [c])) H')
theorem ok_pick (m : Mg K mg) (c__law_draw : Cal P w K mg base 1 "_law_draw" spDraw []) (F : Fn K "_law_of" 37 f fd) (g : mg "_law_of" = some (.ref f)) : Cal P w K mg base 2 "_law_of" spPick [] := by
  have sc := sc41
  refine calD F g sc (fun _ _ _ _ _ _ us hl => match us, hl with | [_, _], _ => rfl) ?_ fun cdv A outer s H vs Q E hr h => ?_
  · rintro vs H Q E ⟨b, v, rfl, _⟩
    rfl
  · obtain ⟨b, v, rfl, bag, h⟩ := h
    refine ⟨_, (pss_one (ps_ret (pe_ix ix_seq (pv 1) (pe_c c__law_draw hr (by decide) (by rfl) (pa_cons (pv 0) (pa_cons (pe_callB call_len (by rfl) m.len_ boot_len (pa_cons (pv 1) pa_nil)) pa_nil))) (fun _ _ => rfl)))), ?_⟩
    simp only [L2.start, cxOf, tRet, tAndV, tOrV, tNotV, tCB, tCons, tNil, tVar, tC, tOp, tUn, tTest, tB, tIf, tIfS, tSeq, tAsg, tAnd, tOr, tNot, gName, tNext, tCall, tChain, rI, rI0, rEq, rNe, rGcd, rU, tM1, tM0, tSl, tPart, tNoPart, gTup, gCons, gNil, gSub, tTup, tLst, tPar, L2.rI, List.map_cons, List.map_nil, List.length_cons, List.length_nil, List.cons_append, List.nil_append, List.append_nil, List.getElem?_cons_zero, List.getElem?_cons_succ, List.set_cons_zero, List.set_cons_succ, Option.some.injEq, exists_eq_left, exists_eq_left', exists_eq_right, exists_and_left, exists_and_right, List.cons.injEq, and_true, true_and, V.int.injEq, V.str.injEq, V.bl.injEq, V.ref.injEq, List.replicate, Nat.reduceAdd, Nat.reduceSub, reduceCtorEq, false_and, and_false, if_true, if_false, Bool.false_eq_true, Bool.not_true, Bool.not_false, decide_eq_true_eq, exists_false, or_false, false_or, spDraw]
    have szl := sizeLine_eq
    rcases h with ⟨l, xs, rfl, hl, nb, p1, p2, q⟩ | ⟨a, rfl, p1, p2, q⟩
    · refine ⟨_, len_L (SqL.of hl), b, _, ⟨rfl, rfl⟩, bag, by omega, by omega, fun H' d ex h0 hlt => ?_⟩
      obtain ⟨n, rfl⟩ := Int.eq_ofNat_of_zero_le h0
      have hn : n < xs.length := by omega
      exact .inl (ixL (SqL.of (ex.keep _ _ nb hl)) n (List.getElem?_eq_getElem hn) (q H' _ ex (List.getElem_mem hn)))
    · refine ⟨_, len_S (by omega), b, _, ⟨rfl, rfl⟩, bag, by omega, by omega, fun H' d ex h0 hlt => ?_⟩
      obtain ⟨n, rfl⟩ := Int.eq_ofNat_of_zero_le h0
      have hn : n < a.length := by omega
      refine .inr (.inr ⟨_, (n : Int), a[n], rfl, rfl, by rw [S_len]; omega, at_nat (List.getElem?_eq_getElem hn), q H' _ ex (List.getElem_mem hn)⟩)
end
end W20

set_option Elab.async false
set_option linter.all false
set_option maxRecDepth 100000
set_option maxHeartbeats 4000000
/-! M20: a drawn tree -/
namespace W20
open PySem PySem.Spec PyProof.Rows L2 Lay
open SX (S S_len S_cat S_tl)
open C8 (Cal pe_c pe_gc fnScope_by E0 sl_txt rSlX)
theorem cut_to {α : Type} {f : α → V} {xs : List α} {k : Nat} (h : k ≤ xs.length) : cutV (xs.map f) none (some (k : Int)) = (xs.take k).map f := by
  unfold cutV
  rw [List.length_map, HT.sIx_nat, Nat.min_eq_left h]
  show ((xs.map f).drop 0).take (k - 0) = _
  rw [List.drop_zero, Nat.sub_zero, List.map_take]
theorem cut_from {α : Type} {f : α → V} {xs : List α} {k : Nat} (h : k ≤ xs.length) : cutV (xs.map f) (some (k : Int)) none = (xs.drop k).map f := by
  unfold cutV
  rw [List.length_map, HT.sIx_nat, Nat.min_eq_left h]
  show ((xs.map f).drop k).take (xs.length - k) = _
  rw [List.map_drop, List.take_of_length_le (by rw [List.length_drop, List.length_map]; omega)]
theorem bag_new {b p : Addr} {H : Hp} {o : HO} (g : Bag H b) (hp : H p = none) : p ≠ b ∧ Bag (upd H p o) b := by
  obtain ⟨l0, ns, pos, big, mixed, cnt, left, e1, e2, e3⟩ := g
  have np : p ≠ b := fun z => by
    rw [z, e1] at hp
    cases hp
  exact ⟨np, l0, ns, pos, big, mixed, cnt, left, by rw [upd_ne (Ne.symm np)]; exact e1, by rw [upd_ne (ne_of_none e2 hp)]; exact e2, e3⟩
theorem Ex.new {b p : Addr} {H H1 : Hp} {o : HO} (x : Ex b H H1) (hp : H1 p = none) : Ex b H (upd H1 p o) := ⟨fun a u n e => (same_new hp) _ _ (x.keep a u n e), (bag_new x.bag hp).2, fun l r e => by
  obtain ⟨r', e'⟩ := x.list l r e
  exact ⟨r', (same_new hp) _ _ e'⟩⟩
theorem Ex.tr {b : Addr} {H H1 H2 : Hp} (x : Ex b H H1) (y : Ex b H1 H2) : Ex b H H2 := ⟨fun a o n e => y.keep a o n (x.keep a o n e), y.bag, fun l r e => by
  obtain ⟨r', e'⟩ := x.list l r e
  exact y.list l r' e'⟩
end W20

set_option Elab.async false
set_option linter.all false
set_option maxRecDepth 100000
set_option maxHeartbeats 4000000
/-! N20: the law's own words of a text -/
namespace W20
open PySem PySem.Spec PyProof.Rows L2 Lay
open SX (S S_len S_cat S_tl)
open C8 (Cal pe_c pe_gc fnScope_by E0 sl_txt rSlX)
theorem keep_words : ∀ X : List P20.Wd, List.filterMap keepW (List.map V.str (List.map S X)) = (X.filter P20.ne).map fun w => V.str (S w)
  | [] => rfl
  | w :: r => by
    have ih := keep_words r
    rw [List.map_cons, List.map_cons, List.filterMap_cons, List.filter_cons]
    by_cases h : w = []
    · subst h
      rw [if_neg (by simp [P20.ne])]
      exact ih
    · have h2 : S w ≠ "" := fun z => h (SX.S_inj (show S w = S [] from z.trans (by decide +kernel)))
      rw [if_pos (by simp [P20.ne, h]), show keepW (V.str (S w)) = some (V.str (S w)) from if_neg h2, List.map_cons]
      show _ :: _ = _ :: _
      rw [ih]
section
variable {P : Program} {w : World} {K : PySem.W.Frag} {mg : Str → Option Value} {base : Heap} {f : Addr} {fd : FuncData}
theorem sc51 : FnScope ["text", "word"] ["text"] (defScope (top 53)) := fnScope_by (by decide +kernel)
theorem ok_tokens (m : Mg K mg) (F : Fn K "_law_tokens" 53 f fd) (g : mg "_law_tokens" = some (.ref f)) : Cal P w K mg base 1 "_law_tokens" spTW [] := by
  have sc := sc51
  refine calT F g sc (by decide +kernel) (by decide) (fun _ _ _ _ _ _ us hl => match us, hl with | [_], _ => rfl) ?_ fun cdv A outer s H vs Q E hr h => ?_
  · rintro vs H Q E ⟨a, rfl, _⟩
    rfl
  · obtain ⟨a, rfl, hl, q⟩ := h
    refine ⟨_, CwR.psst_one (CwR.pst_ret (pet_lcW (own := [("word", 1)]) (g := gName 1) (.inl rfl) sc.nd (pet_m1 PySem.F.slot_str_split PySem.F.type_str_split mt_split (CwR.pet_replT (CwR.pet_replC (pv 0))) pe_str) (blkOk_by (own := [("word", 1)]) (N := ["text", "word"]) (sc := defScope (top 53)) (by decide +kernel)) (fun _ _ _ _ _ => pg_name (i := 1) sc.nd rfl (.inl rfl))
      (fun _ _ _ _ _ => (pts_one (pt_cmpR op_ne (pv 1) pe_str (nomark _)))) (fun _ _ _ _ _ => pv 1))), ?_⟩
    simp only [L2.start, cxOf, tRet, tAndV, tOrV, tNotV, tCB, tCons, tNil, tVar, tC, tOp, tUn, tTest, tB, tIf, tIfS, tSeq, tAsg, tAnd, tOr, tNot, gName, tNext, tCall, tChain, rI, rI0, rEq, rNe, rGcd, rU, tM1, tM0, tSl, tFmtB, tJs, tPart, tNoPart, gTup, gCons, gNil, gSub, tTup, tLst, tPar, L2.rI, List.map_cons, List.map_nil, List.length_cons, List.length_nil, List.cons_append, List.nil_append, List.append_nil, List.getElem?_cons_zero, List.getElem?_cons_succ, List.set_cons_zero, List.set_cons_succ, Option.some.injEq, exists_eq_left, exists_eq_left', exists_eq_right, exists_and_left, exists_and_right, List.cons.injEq, and_true, true_and, V.int.injEq, V.str.injEq, V.bl.injEq, V.ref.injEq, List.replicate, Nat.reduceAdd, Nat.reduceSub, reduceCtorEq, false_and, and_false, if_true, if_false, Bool.false_eq_true, Bool.not_true, Bool.not_false, decide_eq_true_eq, tLcW, CwR.tReplC]
    have ey : ("(" : Str) = S [40] := by decide +kernel
    have ez : (" ( " : Str) = S [32, 40, 32] := by decide +kernel
    have fy : (")" : Str) = S [41] := by decide +kernel
    have fz : (" ) " : Str) = S [32, 41, 32] := by decide +kernel
    have e32 : (" " : Str) = S [32] := by decide +kernel
    rw [ey, ez, fy, fz, e32]
    rw [repl_S (by decide), repl_S (by decide)]
    have l1 : (StrLaws.replL [40] [32, 40, 32] a).length ≤ 3 * a.length := by rw [P20.repl_sub]; exact sub_len
    have l2 : (StrLaws.replL [41] [32, 41, 32] (StrLaws.replL [40] [32, 40, 32] a)).length ≤ 3 * (StrLaws.replL [40] [32, 40, 32] a).length := by rw [P20.repl_sub 41]; exact sub_len
    have l3 : ∀ a b c : Nat, ([a, b, c] : List Nat).length = 3 := fun _ _ _ => rfl
    have szl := sizeLine_eq
    rw [S_len, S_len, S_len, S_len, l3, l3]
    refine ⟨by omega, by omega, ⟨_, rfl⟩, by rfl, by rw [S_len]; omega, fun p hp => ?_⟩
    rw [SX.split_S (by simp) (by decide)]
    generalize eX : TL.spl [32] 0 [] (StrLaws.replL [41] [32, 41, 32] (StrLaws.replL [40] [32, 40, 32] a)) = X
    have fin : X.filter P20.ne = P20.words a := by rw [← eX]; exact P20.prog_words a
    refine ⟨p, rfl, _, SqL.of upd_same, keepW, fun D acc y hD hy => ?_, fun D hD => ?_⟩
    · obtain ⟨y', hy', rfl⟩ := List.mem_map.mp hy
      refine ⟨rfl, .str y', rfl, rfl, ?_⟩
      show (match (if y' = "" then none else some (V.str y')) with | none => _ | some z => _)
      by_cases h : y' = ""
      · rw [if_pos h]
        simp [h]
      · rw [if_neg h]
        exact ⟨by simp [h], rfl⟩
    · have e := keep_words X
      rw [fin] at e
      exact q _ D ((same_new hp).trans (same_new hD)) ((same_new hp).free hD) (by rw [upd_same, e]; rfl)
end
end W20

set_option Elab.async false
set_option linter.all false
set_option maxRecDepth 100000
set_option maxHeartbeats 4000000
/-! LayP: methods and makers of own classes by their FunD; own exceptions over any base that has one field -/
namespace Lay
open PySem PySem.Spec PyProof.Rows L2
open C8 (Cal Mak Met)
section
variable {P : Program} {w : World} {K : PySem.W.Frag} {mg : Str → Option Value} {base : Heap} {x m qual : Str} {params : Arguments} {body : List Stmt} {scope : Scope} {f C : Addr} {fd : FuncData} {N ps : List Str} {k : Nat} {sp : Sp}
theorem makD (M : Mk K C f) (hm : mg x = some (.ref C)) (F : FunD K "__init__" qual params body scope [] [] f fd) (S : FnScope N ps scope)
    (b : ∀ (kV doc pm : Value) (an : Option Addr) (cdv ct : Value) (us : List Value), us.length = ps.length → bindArgs (PySem.W.fnOf "__init__" qual params body scope .none kV doc pm an cdv ct) ⟨us, []⟩ = pure (ps.zip us)) (len : ∀ vs H Q E, sp vs H Q E → vs.length = ps.length)
    (inside : ∀ (cdv : Value) (A : Around) (outer : List Env) (s : Shared) (H : Hp) (vs : List V) (Q : VK) (E : XK), Room k (A.deeper (envOfC qual scope s.heap.objs.size f cdv)) → sp vs H Q E →
      ∃ t, PSs (cxOf C8.CX0 P w K mg base N qual scope f cdv A outer s H E).nox body t ∧ t { nx := fun _ H' => Q .non H', rt := Q } (L2.start N vs) H) : Mak P w K mg base (k + 1) x C sp [] := by
  refine ⟨f, fd, ps, [], M, F.ok S len fun cdv A outer s H vs Q E room prom => ?_, hm, F.bindsN b, .nil⟩
  obtain ⟨t, walk, q⟩ := inside cdv A outer s H vs Q E room prom
  exact ⟨t, walk.nox, q⟩
theorem metD (c : Cls K C) (me : Meth K C m f) (F : FunD K m qual params body scope [] [] f fd) (S : FnScope N ps scope)
    (b : ∀ (kV doc pm : Value) (an : Option Addr) (cdv ct : Value) (us : List Value), us.length = ps.length → bindArgs (PySem.W.fnOf m qual params body scope .none kV doc pm an cdv ct) ⟨us, []⟩ = pure (ps.zip us)) (len : ∀ vs H Q E, sp vs H Q E → vs.length = ps.length)
    (inside : ∀ (cdv : Value) (A : Around) (outer : List Env) (s : Shared) (H : Hp) (vs : List V) (Q : VK) (E : XK), Room k (A.deeper (envOfC qual scope s.heap.objs.size f cdv)) → sp vs H Q E →
      ∃ t, PSs (cxOf C8.CX0 P w K mg base N qual scope f cdv A outer s H E).nox body t ∧ t { nx := fun _ H' => Q .non H', rt := Q } (L2.start N vs) H) : Met P w K mg base (k + 1) C m sp [] := by
  refine ⟨f, fd, ps, [], c, me, F.ok S len fun cdv A outer s H vs Q E room prom => ?_, F.bindsN b, .nil⟩
  obtain ⟨t, walk, q⟩ := inside cdv A outer s H vs Q E room prom
  exact ⟨t, walk.nox, q⟩
/-- a method that raises own errors -/
structure MetN (P : Program) (w : World) (K : PySem.W.Frag) (mg : Str → Option Value) (base : Heap) (k : Nat) (C : Addr) (m : Str) (sp : Sp) : Prop where
  ex : ∃ (f : Addr) (fd : FuncData) (ps : List Str), Cls K C ∧ Meth K C m f ∧ FnOk P w K mg base (L2N.CX P w) k f fd ps sp ∧ Binds K fd ps []
theorem metN (c : Cls K C) (me : Meth K C m f) (F : FunD K m qual params body scope [] [] f fd) (S : FnScope N ps scope)
    (b : ∀ (kV doc pm : Value) (an : Option Addr) (cdv ct : Value) (us : List Value), us.length = ps.length → bindArgs (PySem.W.fnOf m qual params body scope .none kV doc pm an cdv ct) ⟨us, []⟩ = pure (ps.zip us)) (len : ∀ vs H Q E, sp vs H Q E → vs.length = ps.length)
    (inside : ∀ (cdv : Value) (A : Around) (outer : List Env) (s : Shared) (H : Hp) (vs : List V) (Q : VK) (E : XK), Room k (A.deeper (envOfC qual scope s.heap.objs.size f cdv)) → sp vs H Q E →
      ∃ t, PSs (cxOf (L2N.CX P w) P w K mg base N qual scope f cdv A outer s H E) body t ∧ t { nx := fun _ H' => Q .non H', rt := Q } (L2.start N vs) H) : MetN P w K mg base (k + 1) C m sp :=
  ⟨f, fd, ps, c, me, F.ok S len inside, F.bindsN b⟩
/-- o.m(..), own errors taken on -/
def tMethN (C : Addr) (m : Str) (sp : Sp) (E : L2.St → XK) (ta : TE) (t : TA) : TE := fun σ H Q => ta σ H fun x H1 => ∃ a dx fs, x = .ref a ∧ H1 a = some (.ins C dx fs) ∧ fs.lookup m = none ∧
  t σ H1 fun vs H2 => sp (x :: vs) H2 Q (E σ)
theorem pe_mtN {X : Cx} {j : Nat} {o e : Expr} {es : List Expr} {ta : TE} {t : TA} {apos pos : Pos} {W : WX} {pl : Sem Bool} (c : MetN X.prog X.w X.K X.mg X.base k C m sp) (hr : Room j X.A) (hk : k ≤ j) (tk : L2N.Takes X W) (he : PE X o ta) (ha : PA X (e :: es) t)
    (hst : starEach (e :: es) X.env = (false, eval e X.env) :: starEach es X.env := by rfl) (hpl : (backTo pos (starEach es X.env)).any (·.1) = false := by rfl)
    (ht : eval (.Call (.Attribute o m apos) (e :: es) [] pos) X.env = (do
      let ov ← eval o X.env
      standAt apos.atName
      let (f, first) ← holding [ov] (getMethod ov m pl)
      callWith pos f first (backTo pos (starEach (e :: es) X.env)) (backToKw pos (keywordEach [] X.env))) := by rfl) :
    PE X (.Call (.Attribute o m apos) (e :: es) [] pos) (tMethN C m sp (WE W) ta t) := by
  obtain ⟨f, fd, ps, hc, hm, F, b⟩ := c.ex
  refine ⟨fun pins s σ H Q I h => ?_⟩
  refine PySem.W.methodCall_KW (pl := pl) (thn (he.run pins s σ H _ I h) fun u s1 ⟨x, H1, I1, rx, a, dx, fs, ex, ea, l, q⟩ => ?_) ht
  subst ex
  obtain rfl : u = Value.ref a := rx
  refine getmeth_ok I1 ea hc hm l ?_
  refine PySem.W.callWith_K (first := [.ref a]) (h₀ := X.base) I.ok.mod.kin hm.kp (thn (ha.run pos pins s1 σ H1 _ I1 q) fun us s2 ⟨vs, H2, I2, r, q2⟩ => ⟨I2.kIn, ?_⟩) hst hpl
  exact run_fnS (us := .ref a :: us) (vs := .ref a :: vs) F (hr.mono hk) b (L2N.passAt tk σ) I2 (.cons rfl r) q2
end
/-! own exceptions over any base -/
/-- the class at C is an own exception's over B -/
structure OexX (K : PySem.W.Frag) (C : Addr) (B newId initId : String) (bmB : List Value) : Prop where
  F : ExcBaseFacts B newId initId bmB
  cls : ∃ nm q N bs sn sub ab col dd k0 k1 k2 k3 k5, K.lookup C = some (excClassObj nm q C N bs bmB true sn sub ab col dd k0 k1 k2 k3 k5 newId)
  pass : ∀ self : Value, PySem.refuseLoop self "__setattr__" bmB = pure ()
  obj : bmB.contains (.type "object") = true
  sa : PySem.W.findIn K (.ref C) "__setattr__" = some (some (.builtin "object.__setattr__"))
  exC : PySem.W.subIn K (.ref C) (.type "BaseException") = some true
  tyC : PySem.W.typeIn K (.ref C) = some (.type "type")
  kC : PySem.W.keepIn K (.ref C) = true
section
open Builtin Builtin.ObjectAttr PySem.W PySem.Calls PySem.HandSPX
variable {prog : Program} {w : World} {A : Around} {E : Value → Shared → Prop} {R : Result → Shared → Prop} {hp : Heap} {g : Array GenState} {d : Drawn} {t : Nat} {os : OsState} {bm : List Value}
theorem exc_osaX {K : W.Frag} {name : Str} {tk : Tok} {v : Value} {x C : Addr} {fv : Array Value} {cd : ClassData}
    (X : K.In hp) (hx : hp.get? x = some { cls := .ref C, data := .fields fv }) (hcd : W.clsIn K C = some cd) (hm : cd.mro = .ref C :: bm) (hpass : ∀ self : Value, PySem.refuseLoop self "__setattr__" bm = pure ()) (hob0 : bm.contains (.type "object") = true) (hh : cd.hasDict = true) (ha : W.findIn K (.ref C) name = some none)
    (hq : ∀ h' tk' dx, (∀ b o, b ≠ x → hp.get? b = some o → h'.get? b = some o) → hp.objs.size ≤ dx → dx ≠ x → h'.get? x = some { cls := .ref C, dict := some dx, data := .fields fv } →
      h'.Ns1 dx (fun y => if y = name then some v else none) → R (.ok (.ret .none)) ⟨h', g, d, tk', os⟩) :
    codeAny (model prog w) A (.call (.builtin "object.__setattr__") ⟨[.ref x, .str name tk, v], []⟩) R ⟨hp, g, d, t, os⟩ := by
  have I : W.InstAt hp x { cls := .ref C, data := .fields fv } C none := ⟨hx, rfl, rfl, trivial⟩
  have SF := F.store_object
  have ne : cd.mro.isEmpty = false := by rw [hm]; rfl
  have hob : cd.mro.contains (.type "object") = true := by rw [hm, List.contains_cons, hob0, Bool.or_true]
  have hxs : x ≠ hp.objs.size := Nat.ne_of_lt (Heap.lt_size hx)
  have sub : W.Looks (model prog w) hp (isInstance (.ref x) (.type "object")) true := I.type.andThen (W.looks_mroIn X (by unfold W.mroIn; rw [hcd, Option.bind_some, if_neg (by rw [ne]; decide), hob]))
  refine codeAny_call_builtin SF.slot.plain SF.entry (@W.check_slot (model prog w) _ _ ⟨hp, g, d, t, os⟩ "object.__setattr__" "object" "__setattr__" (.ref x) [.str name tk, v] [] _ SF.kind SF.split sub (SF.args (.ref x) (.str name tk) v) ?_)
  have hmr : W.Looks (model prog w) hp (mroOf (.ref C)) cd.mro := (W.looks_clsIn X hcd).andThen .now
  have L3 : W.Looks (model prog w) hp (storeTaker? none) none := .now
  have hcls : W.Looks (model prog w) hp (classData C) cd := W.looks_clsIn X hcd
  rw [W.osa_eq, refuse_eq]
  refine wpAny_bind (wpAny_bind (I.type.at (wpAny_bind (hmr.at ?_))))
  rw [hm, refuseLoop_ref, hpass]
  refine wpAny_pure (wpAny_bind (I.type.at (wpAny_bind ((W.looks_findIn X ha).at (wpAny_bind (L3.at ?_))))))
  show wpAny _ _ (storeInOwnDict (.ref x) (.ref C) (.str name tk) name v false) _ _ _
  obtain ⟨nm, bs, mro, ns, qn, hd, sn, sb, ab, col, del⟩ := cd
  dsimp only at hh
  subst hh
  unfold storeInOwnDict ownDictForStores
  repeat (first | with_reducible refine store_in_new ?_ ?_ | with_reducible refine wpAny_loadPart_at hx ?_ | with_reducible refine hcls.at ?_ | wp_step)
  · exact ⟨_, #[], _, (Heap.get?_update_ne _ _ _ _ hxs.symm).trans (Heap.get?_push_at rfl rfl), rfl, fun e he => absurd he (by simp), fun _ => rfl⟩
  · intro h' tk' hn' hs
    have hx₁ : (hp.push { cls := .type "dict", data := .dict #[] }).get? x = some { cls := .ref C, data := .fields fv } := Heap.get?_push_of_some _ hx
    refine hq h' tk' hp.objs.size (fun b o hb ho => ?_) (Nat.le_refl _) hxs.symm ?_ hn'
    · exact (hs.2 b (Nat.ne_of_lt (Heap.lt_size ho))).trans ((Heap.get?_update_ne _ _ _ _ hb).trans (Heap.get?_push_of_some _ ho))
    · exact (hs.2 x hxs).trans (Heap.get?_update_self _ hx₁ rfl)
end
section
variable {X : Cx} {pins : List (Addr × Obj)} {σ : L2.St} {H : Hp} {s : Shared} {a C dx : Addr} {f : Str} {y : V} {u : Value} {fs : List (Str × V)} {Q : Unit → Shared → Prop} {E : Value → Shared → Prop} {A : Around} {B newId initId : String} {bmB : List Value}
/-- self.f = y, the first one -/
theorem ostX_new (T : OexX X.K C B newId initId bmB) (I : L2.Inv X pins σ H s) (e : H a = some (exo a C none)) (hno : PySem.W.findIn X.K (.ref C) f = some none) (ry : RelV y u)
    (h : ∀ dx s', H dx = none → dx ≠ a → L2.Inv X pins σ (upd (upd H dx (exd dx [(f, y)])) a (exo a C (some dx))) s' → Q () s') : wpAny (model X.prog X.w) A (setAttr (.ref a) f u) Q E s := by
  obtain ⟨nm, q, N, bs, sn, sub, ab, col, dd, k0, k1, k2, k3, k5, hC⟩ := T.cls
  have hcl : PySem.W.clsIn X.K C = some { name := nm, bases := bs, mro := .ref C :: bmB, ns := N, qualname := q, hasDict := true, slotNames := sn, subclasses := sub, abstract := ab, collection := col, hasDel := false } := by unfold PySem.W.clsIn; rw [hC] <;> rfl
  obtain ⟨t1, ho⟩ := exo_at I.hok e
  obtain ⟨hp, g, d, t, os⟩ := s
  refine PySem.W.set_plain I.kIn (ox := { cls := .ref C, dict := none, data := .fields #[.ref t1, .none, .none, .none, .bool false, .none] }) (od := none) ⟨ho, rfl, rfl, trivial⟩ T.sa ?_
  refine exc_osaX I.kIn ho hcl rfl T.pass T.obj rfl hno (fun h' tk' dx k dn dne hx hn => ?_)
  have hnd : H dx = none := I.hok.fresh dn
  have nd : ∀ {b : Addr} {o : Obj}, hp.get? b = some o → b ≠ dx := fun {b o} q => Nat.ne_of_lt (Nat.lt_of_lt_of_le (Heap.lt_size q) dn)
  have na : ∀ {b : Addr}, H b = none → b ≠ a := fun {b} n z => by
    rw [z, e] at n
    cases n
  have Un1 : Un X.fs [] H (upd (upd H dx (exd dx [(f, y)])) a (exo a C (some dx))) hp h' := {
    keep := fun b o q n _ _ => k b o (na n) q
    slot := fun b o q n _ _ => ⟨o.slots, k b o (na n) q⟩
    free := fun b o q n _ => by rw [upd_ne (na n), upd_ne (nd q)]; exact n
    there := fun b o q _ => by
      by_cases hb : b = a
      · exact ⟨_, by rw [hb]; exact hx⟩
      · exact ⟨o, k b o hb q⟩
    tups := fun b xs q => by rw [upd_ne (at_ne e q exo_tup), upd_ne (ne_of_none q hnd)]; exact q
    frzs := fun b o v q => by rw [upd_ne (at_ne e q exo_frz), upd_ne (ne_of_none q hnd)]; exact q
    tbls := fun b ps q => ⟨#[], by rw [upd_ne (at_ne e q exo_tbl), upd_ne (ne_of_none q hnd), q]; simp⟩ }
  refine h dx _ hnd dne (I.un (t' := tk') Un1 fun b o q => ?_)
  by_cases hb : b = a
  · subst hb
    rw [upd_same] at q
    cases q
    exact exo_ok hx
  · rw [upd_ne hb] at q
    by_cases hd : b = dx
    · subst hd
      rw [upd_same] at q
      cases q
      exact exd_ok hn (relO_put (fs := []) ry fun g => True.intro)
    · rw [upd_ne hd] at q
      exact (I.hok b o q).stay (fun c v hc z => k c v (by
          rcases hc with hc | hc
          · rw [hc]
            exact hb
          · exact at_ne e hc exo_own) z)
        (fun c hc => by rw [upd_ne (at_ne e hc exo_own), upd_ne (ne_of_none hc hnd)]; exact hc) (fun c xs hc => by rw [upd_ne (at_ne e hc exo_tup), upd_ne (ne_of_none hc hnd)]; exact hc)
/-- self.f = e, the only field -/
def tOstX (K : PySem.W.Frag) (B newId initId : String) (bmB : List Value) (f : Str) (to te : TE) : TS := fun D σ H => te σ H fun y H1 => to σ H1 fun x H2 => ∃ a C : Addr, x = .ref a ∧ OexX K C B newId initId bmB ∧ PySem.W.findIn K (.ref C) f = some none ∧
  (H2 a = some (exo a C none) ∧ ∀ dx, H2 dx = none → dx ≠ a → D.nx σ (upd (upd H2 dx (exd dx [(f, y)])) a (exo a C (some dx))))
theorem ps_ostX {o e : Expr} {p' pos : Pos} {to te : TE} (ho : PE X o to) (he : PE X e te) (hs : swapsWith e (some (.Attribute o f p')) pos.line X.env = pure false := by rfl) : PS X (.Assign [.Attribute o f p'] e pos) (tOstX X.K B newId initId bmB f to te) := by
  refine ⟨fun pins s σ H D I h => ?_⟩
  refine plainObj_wpAny_Assign_Attribute (thn (he.run pins s σ H _ I h) fun v s1 ⟨y, H1, I1, r1, q1⟩ => thn (ho.run pins s1 σ H1 _ I1 q1) fun u s2 ⟨x, H2, I2, r2, a, C, ex, T, hno, ea, q⟩ => ?_) hs
  subst ex
  obtain rfl : u = Value.ref a := r2
  exact ostX_new T I2 ea hno r1 fun dx s' n ne J => ⟨σ, _, J, q dx n ne⟩
theorem pmk_oexX {CX : CXT} {x : Str} {C fI : Addr} {k : Nat} {fd : FuncData} {ps : List Str} {sp : Sp} {e : Expr} {es : List Expr} {ta : TA} {p pos : Pos} (T : OexX X.K C B newId initId bmB) (iC : PySem.W.findIn X.K (.ref C) "__init__" = some (some (.ref fI)))
    (tI : PySem.W.typeIn X.K (.ref fI) = some (.type "function")) (F1 : FnOk X.prog X.w X.K X.mg X.base CX k fI fd ps sp) (room : Room (k + 1) X.A) (hb : Binds X.K fd ps []) (hx : Passes CX X (fun _ _ _ => False)) (hg : Gl X x) (hm : X.mg x = some (.ref C)) (ha : PA X (e :: es) ta)
    (hdb : (x == ("__debug__" : Str)) = false := by decide) (he : starEach (e :: es) X.env = (false, eval e X.env) :: starEach es X.env := by rfl) (hpl : (backTo pos (starEach es X.env)).any (·.1) = false := by rfl) :
    L2N.PMk X (.Call (.Name x p) (e :: es) [] pos) (tMkO C sp [] ta) := by
  intro pins s σ H Q I h
  obtain ⟨nm, q, N, bs, sn, sub, ab, col, dd, k0, k1, k2, k3, k5, hC⟩ := T.cls
  refine wpAny_Call_Name_kw (ld_glob I hg hm ?_ hdb)
  refine PySem.W.callWith_K (h₀ := X.base) I.ok.mod.kin T.kC (thn (ha.run pos pins s σ H _ I h) ?_) he hpl
  rintro us ⟨hp, g, dr, tk, os⟩ ⟨vs, H1, I1, r1, few, wish⟩
  refine ⟨I1.kIn, ?_⟩
  show wpAny _ _ (call (.ref C) us) _ _ _
  generalize ea : hp.objs.size + 1 = a at *
  have up : hp.objs.size ≤ a := by rw [← ea]; exact Nat.le_succ _
  have prom := wish a (I1.hok.fresh up)
  rw [List.append_nil] at prom
  have grow : ∀ b o, hp.get? b = some o → ((hp.push (PySem.W.kdv_tup us)).push (PySem.HandSPX.excO C hp.objs.size)).get? b = some o := fun b o z => Heap.get?_push_of_some _ (Heap.get?_push_of_some _ z)
  have here : ((hp.push (PySem.W.kdv_tup us)).push (PySem.HandSPX.excO C hp.objs.size)).get? a = some (PySem.HandSPX.excO C hp.objs.size) := by rw [← ea]; heap_get
  have I2 := I1.laid (t' := tk) (a := a) (o := exo a C none) (h' := (hp.push (PySem.W.kdv_tup us)).push (PySem.HandSPX.excO C hp.objs.size)) grow up (exo_ok here)
  have r2 : Vals (V.ref a :: vs) (Value.ref a :: us) := .cons rfl r1
  have number : (Value.ref a :: us ++ []).length = ps.length := by rw [List.append_nil, ← r2.length]; exact F1.len _ _ _ _ prom
  have bound := hb ⟨(hp.push (PySem.W.kdv_tup us)).push (PySem.HandSPX.excO C hp.objs.size), g, dr, tk, os⟩ (Value.ref a :: us) I2.kIn number
  rw [List.append_nil] at bound
  have short : us.length ≤ sizeLine := by rw [← Paired.length r1, sizeLine_eq]; omega
  subst ea
  refine wpAny_call (PySem.HandSPX.call_own T.F (fun Y => rfl) (I1.kIn _ _ hC) (PySem.W.looks_findIn I1.kIn iC) (fun self => PySem.W.bind_fn I1.kIn self tI) short
    (codeAny_mono (F1.run _ X.stack _ _ ⟨Value.ref (hp.objs.size + 1) :: us, []⟩ (Value.ref (hp.objs.size + 1) :: us) _ _ (fun _ _ _ => False) (room.make C us []) (I2.env0.make C us []) bound r2 prom) ?_))
  rintro (er | _ | _ | _ | u) s' out
  case error => exact hx pins σ _ _ er s' I2 out
  case ok.ret =>
    obtain ⟨v, H2, os2, bare2, un2, hok2, rv, rfl, d, fs, ea, ed, hd1, q2⟩ := out
    obtain ⟨h2, g2, d2, t2, os'⟩ := s'
    obtain ⟨t0, G, J, sub2, gone, obj, free⟩ := mk_end0 (d2 := d2) (t2 := t2) I1 up grow un2 hok2 os2 bare2 ea ed hd1
    refine ⟨rv, hp.objs.size + 1, _, _, ⟨G, g2, d2, t2, os'⟩, _, .ref C, some d, rfl, J, sub2, gone, obj, ⟨rfl, rfl, fun vs hv => ?_⟩, rfl, rfl, free, rfl, bare2, raises_own T.exC T.tyC, q2⟩
    cases hv
    rfl
  all_goals exact False.elim out
end
end Lay

set_option Elab.async false
set_option linter.all false
set_option maxRecDepth 100000
set_option maxHeartbeats 4000000
/-! LayQ: [k for k in d]; fields that are set -/
namespace Lay
open PySem PySem.Spec PyProof.Rows L2
theorem lc_keys {td : TE} {i : Nat} {σ : L2.St} {H : Hp} {Q : VK} {d : Addr} {o : Obj} {kvs : List (Key × V)} (h : ∀ R : VK, R (.ref d) H → td σ H R) (hd : H d = some (.frz o (.dK kvs))) (hl : kvs.length ≤ sizeLine)
    (hw : ∀ x, wipe ((wipe σ [i]).set i (some x)) [i] = wipe σ [i]) (hi : ∀ x : V, ((wipe σ [i]).set i (some x))[i]? = some (some x)) (k : ∀ D, H D = none → Q (.ref D) (upd H D (.lst (kvs.map fun kv => kV kv.1)))) :
    tLc (iKeys td) (gName i) tYes (tVar i) [i] σ H Q := by
  refine h _ ⟨d, o, rfl, .inl ⟨kvs, hd, fun D hD => ?_⟩⟩
  refine lc_it walk_keys (fun j H' => H' = upd H D (.lst ((kvs.take j).map fun kv => kV kv.1))) rfl ?_ ?_ ?_
  · rintro j H' hj rfl
    rw [upd_ne (ne_of_none hd hD)]
    exact hd
  · rintro j x H1 H2 hj rfl ⟨rfl, kk, v, hk, rfl⟩
    refine ⟨hw _, ?_⟩
    unfold tYes
    simp only [if_true]
    refine ⟨_, hi _, _, upd_same, ?_, ?_⟩
    · rw [List.length_map, List.length_take]
      omega
    · rw [upd_upd]
      obtain ⟨h1, e⟩ := List.getElem?_eq_some_iff.mp hk
      rw [List.take_succ_eq_append_getElem h1, e, List.map_append]
      rfl
  · rintro H' rfl
    rw [List.take_length]
    exact k D hD
end Lay
namespace Lay
open PySem PySem.Spec PyProof.Rows L2
/-- [.. for v in range(n)] -/
theorem lc_range {ta : TA} {te : TE} {v n : Nat} {σ : L2.St} {H H1 : Hp} {Q : VK} (hn : n < 2 ^ 62) (h : ∀ R : List V → Hp → Prop, R [.int (n : Int)] H1 → ta σ H R)
    (hw : ∀ x, wipe ((wipe σ [v]).set v (some x)) [v] = wipe σ [v])
    (k : ∀ D, H1 D = none → ∃ Pv : Nat → Hp → Prop, Pv 0 (upd H1 D (.lst [])) ∧
      (∀ i H', i < n → Pv i H' → te ((wipe σ [v]).set v (some (.int (i : Int)))) H' fun y H4 => ∃ acc, H4 D = some (.lst acc) ∧ acc.length < sizeLine ∧ Pv (i + 1) (upd H4 D (.lst (acc ++ [y])))) ∧ ∀ H', Pv n H' → Q (.ref D) H') :
    tLc (iRng1 ta) (gName v) tYes te [v] σ H Q := by
  refine h _ ⟨(n : Int), rfl, by omega, by omega, fun D hD => ?_⟩
  obtain ⟨Pv, h0, hs, hd⟩ := k D hD
  rw [Int.toNat_natCast]
  refine lc_it (walk_range (lo := 0) (n := n)) Pv h0 (fun _ _ _ _ => trivial) ?_ hd
  rintro i x H' H2 hi hP ⟨rfl, e⟩
  have ex : x = .int (i : Int) := by
    simpa using e
  subst ex
  refine ⟨hw _, ?_⟩
  unfold tYes
  simp only [if_true]
  exact hs i _ hi hP
end Lay

set_option Elab.async false
set_option linter.all false
set_option maxRecDepth 100000
set_option maxHeartbeats 4000000
/-! LayR: iter(t) of a tuple; len(o) and list(o) of an own class with __len__ and an __iter__ that gives a tuple's iterator -/
namespace Lay
open PySem PySem.Spec PyProof.Rows L2
abbrev tiObj (t : Addr) (i : Nat) : Obj := { cls := .type "tuple_iterator", data := .fields #[.ref t, .int i 0] }
/-- at it: an iterator over the tuple at t that has given i of its items -/
def ItT (t it : Addr) (i : Nat) : HO := .ext fun h => h.IsTupleIter it t i
theorem itT_ok {P : Program} {w : World} {H : Hp} {h : Heap} {t it : Addr} {i : Nat} (e : h.IsTupleIter it t i) : ObjOk P w H h it (ItT t it i) := ⟨e, ⟨_, e.choose_spec.1⟩, fun h1 h2 q k => let ⟨o, ho, r⟩ := q; ⟨o, k _ ho, r⟩⟩
section
variable {X : Cx} {pins : List (Addr × Obj)} {σ : L2.St} {H : Hp} {s : Shared}
theorem itT_get {t it : Addr} {i : Nat} (I : L2.Inv X pins σ H s) (e : H it = some (ItT t it i)) : s.heap.IsTupleIter it t i := (I.hok it _ e).1
/-- iter(t), t a tuple -/
def rIterT (K : PySem.W.Frag) : List V → Hp → VK → Prop := fun xs H Q => ∃ (t : Addr) (zs : List V), xs = [.ref t] ∧ SqT K H t zs ∧ ∀ it, H it = none → Q (.ref it) (upd H it (ItT t it 0))
theorem iter_tuple {prog : Program} {w : World} {A : Around} {E : Value → Shared → Prop} {t : Addr} {items : Array Value} {Q : Value → Shared → Prop} (hl : s.heap.IsTuple t items) (h : Q (.ref s.heap.objs.size) { s with heap := s.heap.push (tiObj t 0) }) : wpAny (model prog w) A (call (.builtin "iter") [.ref t]) Q E s := by
  refine Calls.call_function_entry (by decide +kernel) (by decide +kernel) PySem.W.kdk_entry_iter (PySem.W.kdk_args_iter _) ?_
  unfold Builtin.«iter»
  refine wpAny_bind (m := someArgs "iter" 1 2 _) (wpAny_of_eq (a := [Value.ref t]) (by first | rfl | kernel_rfl!) ?_)
  show wpAny _ _ (pyIter (.ref t) >>= _) _ _ _
  refine wpAny_bind (wpAny_pyIter_tuple hl ?_)
  exact wpAny_pure ⟨_, rfl, h⟩
theorem call_iterT : CallR X (.builtin "iter") (rIterT X.K) := by
  intro pins s σ H xs us Q I r h
  obtain ⟨l, zs, rfl, hq, q⟩ := h
  obtain rfl := Vals.ref1 r
  obtain ⟨its, rv, pl, hz⟩ := I.tuple hq
  refine iter_tuple pl ?_
  exact ⟨.ref s.heap.objs.size, _, I.laid (t' := s.toks) (fun b u e => Heap.get?_push_of_some _ e) (Nat.le_refl _) (itT_ok ⟨_, Heap.get?_push_size _ rfl, rfl, rfl⟩), rfl, q _ (I.hok.fresh (Nat.le_refl _))⟩
end
end Lay

set_option Elab.async false
set_option linter.all false
set_option maxRecDepth 100000
set_option maxHeartbeats 4000000
/-! LayS: len(o) by an own __len__ -/
namespace Lay
open PySem PySem.Spec PyProof.Rows L2
/-- the class has an own __len__ and an own __iter__ -/
structure ItO2 (K : PySem.W.Frag) (C fi fl : Addr) : Prop where
  it : PySem.W.findIn K (.ref C) "__iter__" = some (some (.ref fi))
  itF : PySem.W.isFn K (.ref fi) = true
  ln : PySem.W.findIn K (.ref C) "__len__" = some (some (.ref fl))
  lnF : PySem.W.isFn K (.ref fl) = true
/-- an own __len__'s promise -/
def LenP (sp : Sp) (a : Addr) (n : Nat) (H : Hp) : Prop := sp [.ref a] H (fun v H' => v = .int (n : Int) ∧ H' = H) C8.E0
section
variable {X : Cx} {pins : List (Addr × Obj)} {σ : L2.St} {H : Hp} {s : Shared} {C fi fl a : Addr} {fdL : FuncData} {psL : List Str} {spL : Sp} {k n : Nat} {A : Around} {dx : Addr} {fs : List (Str × V)}
theorem len_own {Q : Value → Shared → Prop} {E : Value → Shared → Prop} (sb : L2.Sub X k A.in1) (hc : ItO2 X.K C fi fl) (FL : FnOk X.prog X.w X.K X.mg X.base C8.CX0 k fl fdL psL spL) (bL : Binds X.K fdL psL []) (I : L2.Inv X pins σ H s) (ha : H a = some (.ins C dx fs)) (hn : n ≤ 16777216)
    (hsp : LenP spL a n H) (q : ∀ t s', L2.Inv X pins σ H s' → Q (.int (n : Int) t) s') : wpAny (model X.prog X.w) A (call (.builtin "len") [.ref a]) Q E s := by
  obtain ⟨mA, J, _⟩ := ins_get I.hok ha
  obtain ⟨od, J, _⟩ := J.look
  refine Calls.call_function_entry PySem.kind_len PySem.plain_len PySem.entry_len (PySem.args_len1 _) ?_
  unfold Builtin.«len»
  refine wpAny_bind (m := oneArg "len" _) (wpAny_pure ?_)
  refine wpAny_bind (PySem.W.special_fn (name := "__len__") (args := []) I.kIn J hc.ln (beq_iff_eq.mp hc.lnF) ?_)
  have e0 : Env0 X.prog X.w X.K X.mg X.base A.in1 X.stack s H := by
    have e := I.env0
    exact ⟨by rw [sb.fr]; exact e.frames, e.mod, e.bs, e.bsz, e.funs, e.frf, e.hok, e.bare⟩
  have hl := FL.len _ _ _ _ hsp
  have r2 : Vals [V.ref a] [Value.ref a] := .cons rfl .nil
  refine wpAny_call (codeAny_mono (FL.run A.in1 X.stack s H ⟨[.ref a], []⟩ [.ref a] [.ref a] _ C8.E0 sb.room e0 (by
    have := bL s [.ref a] I.kIn (by simpa using hl)
    simpa using this) r2 hsp) fun r s' hq => ?_)
  cases r with
  | error e => exact False.elim hq
  | ok fl2 =>
    cases fl2 with
    | next => exact False.elim hq
    | brk => exact False.elim hq
    | cont => exact False.elim hq
    | ret u =>
      obtain ⟨v, H', I', rv, ev, eH⟩ := I.after hq
      subst ev
      rw [eH] at I'
      obtain ⟨t, rfl⟩ := rv
      refine wpAny_bind (wpAny_holding (wpAny_pure ?_))
      refine wpAny_bind (wpAny_letGo ?_)
      show wpAny _ _ (if ((n : Nat) : Int) < 0 then _ else _) _ _ _
      rw [if_neg (by omega)]
      show wpAny _ _ (if ((n : Nat) : Int) ≥ 2 ^ 63 then _ else _) _ _ _
      rw [if_neg (by omega)]
      exact wpAny_bind (wpAny_mkInt (wpAny_pure ⟨_, rfl, q _ _ (I'.tok _)⟩))
/-- the length that list(o) asks for -/
theorem own_hint2 {Q : Bool → Shared → Prop} {E : Value → Shared → Prop} (sb : L2.Sub X k A.in1) (hc : ItO2 X.K C fi fl) (FL : FnOk X.prog X.w X.K X.mg X.base C8.CX0 k fl fdL psL spL) (bL : Binds X.K fdL psL []) (I : L2.Inv X pins σ H s) (ha : H a = some (.ins C dx fs)) (hn : n ≤ 1000000)
    (hsp : LenP spL a n H) (q : ∀ b s', L2.Inv X pins σ H s' → Q b s') : wpAny (model X.prog X.w) A (Builtin.List.listLengthHint (.ref a)) Q E s := by
  obtain ⟨mA, J, _⟩ := ins_get I.hok ha
  obtain ⟨od, J, _⟩ := J.look
  unfold Builtin.List.listLengthHint
  refine wpAny_bind (wpAny_bind (J.type.here ((PySem.W.looks_findIn I.kIn hc.ln).here ?_)))
  refine PySem.W.KFB.if_not rfl ?_
  refine PySem.W.KFB.if_so rfl ?_
  refine wpAny_bind (wpAny_rule ?_)
  refine wpAny_bind (wpAny_attempt (len_own sb hc FL bL I ha (by omega) hsp fun t s' I' => ?_))
  refine wpAny_bind (m := asInt? (.int (n : Int) t)) (wpAny_of_eq (a := some (n : Int)) rfl ?_)
  have e : Builtin.List.listTooLong ((n : Int)).toNat = false := by
    unfold Builtin.List.listTooLong
    rw [Int.toNat_natCast, sizeLine_eq]
    exact decide_eq_false (by omega)
  refine PySem.W.KFB.if_not e ?_
  exact wpAny_pure (q _ _ I')
end
end Lay

set_option Elab.async false
set_option linter.all false
set_option maxRecDepth 100000
set_option maxHeartbeats 4000000
/-! LayT: list(o), o of an own class whose __iter__ gives an iterator over a tuple -/
namespace Lay
open PySem PySem.Spec PyProof.Rows L2
/-- at it: some object -/
def AnyO (it : Addr) : HO := .ext fun h => ∃ o, h.get? it = some o
theorem anyO_ok {P : Program} {w : World} {H : Hp} {h : Heap} {it : Addr} (e : ∃ o, h.get? it = some o) : ObjOk P w H h it (AnyO it) := ⟨e, e, fun h1 h2 ⟨o, q⟩ k => ⟨o, k _ q⟩⟩
section
variable {prog : Program} {w : World} {A : Around} {E : Value → Shared → Prop} {s : Shared}
theorem tup_end {it t : Addr} {i : Nat} {items : Array Value} {Q : Option Value → Shared → Prop} (hh : A.handled = none) (hit : s.heap.IsTupleIter it t i) (ht : s.heap.IsTuple t items) (hx : items[i]? = none)
    (hQ : ∀ h', Heap.ExtBut it s.heap h' → (∃ o, h'.get? it = some o) → Q none { s with heap := h' }) : wpAny (model prog w) A (pyNext (.ref it)) Q E s := by
  obtain ⟨o, ho, hc, hd⟩ := id hit
  obtain ⟨ol, hol, _, nl, hdl⟩ := ht
  unfold pyNext
  refine wpAny_bind (wpAny_attempt (wpAny_callSpecial?_slot (name := Str.ofString "__next__") hit.typeIs F.slot_tuple_iterator_next
    (wpAny_call_entry F.slot_tuple_iterator_next hit.typeIs F.entry_tuple_iterator_next ?_ (F.args_tuple_iterator_next_1 _))))
  show wpAny _ _ (field (.ref it) 0 >>= _) _ _ s
  refine wpAny_bind (wpAny_field ho hd (x := .ref t) rfl ?_)
  show wpAny _ _ (if (Value.ref t == Value.none) = true then _ else _) _ _ s
  rw [if_neg (show ¬ ((Value.ref t == Value.none) = true) from Bool.false_ne_true)]
  show wpAny _ _ (field (.ref it) 1 >>= _) _ _ s
  refine wpAny_bind (wpAny_field ho hd (x := .int i 0) rfl ?_)
  show wpAny _ _ (seqItems? (.ref t) >>= _) _ _ s
  refine wpAny_bind (wpAny_seqItems hol hdl ?_)
  simp only [Int.toNat_natCast, hx]
  refine wpAny_bind (wpAny_rule (wpAny_bind (wpAny_setField ho hd (by simp) ?_)))
  show wpAny _ _ (newExc (.type "StopIteration") [] >>= _) _ _ _
  refine wpAny_bind ?_
  simp only [newExc, newTuple]
  refine wpAny_bind (wpAny_newObj_type ?_ (by size_fits))
  refine wpAny_bind (m := firstArgMember _ _) (wpAny_of_eq (a := Value.none) (by first | rfl | (simp only [firstArgMember]; rfl)) ?_)
  refine wpAny_newObj_type ?_ (by size_fits)
  simp only [raiseNew]
  refine wpAny_bind (wpAny_handled ?_)
  first | rw [show A.in1.handled = none from hh] | rw [hh]
  refine wpAny_bind (wpAny_pure (wpAny_throw ?_))
  refine wpAny_bind (wpAny_isInstance (T := "StopIteration") (b := true) ⟨_, Heap.get?_push_size _ rfl, rfl⟩ isSubtype_stop ?_)
  exact wpAny_pure (hQ _ (((Heap.SameBut.update ..).extBut.push _).push _) ⟨_, Heap.get?_push_of_some _ (Heap.get?_push_of_some _ (Heap.get?_update_self _ ho (Obj.isFreed_of_fields (Obj.data_mapFields hd _))))⟩)
end
theorem sqT_upd {K : PySem.W.Frag} {H : Hp} {t b : Addr} {o : HO} {zs : List V} (h : SqT K H t zs) (ne : t ≠ b) : SqT K (upd H b o) t zs := by
  unfold SqT Rd at *
  rw [upd_ne ne]
  exact h
section
variable {X : Cx} {pins : List (Addr × Obj)} {σ : L2.St} {H : Hp} {s : Shared} {C fi fl a q : Addr} {fdL fdI : FuncData} {psL psI : List Str} {spL spI : Sp} {k n : Nat} {A1 : Around} {dx : Addr} {fs : List (Str × V)} {Rs : Result → Shared → Prop}
theorem own_loop2 {t it : Addr} {zs : List V} (hh : A1.handled = none) (hR : ∀ H' s', L2.Inv X pins σ H' s' → (∃ H0, H' = upd (upd H0 it (AnyO it)) q (.lst zs) ∧ (∀ b u, b ≠ it → b ≠ q → H b = some u → H0 b = some u)) → Rs (.ok (.ret .none)) s') (hz : zs.length < sizeLine) (nqi : q ≠ it) :
    ∀ (m i : Nat) (H' : Hp) (s : Shared), zs.length - i = m → i ≤ zs.length → L2.Inv X pins σ H' s → H' it = some (ItT t it i) → H' q = some (.lst (zs.take i)) → SqT X.K H' t zs → t ≠ it → t ≠ q → (∀ b u, b ≠ it → b ≠ q → H b = some u → H' b = some u) →
      codeAny (model X.prog X.w) A1 (.builtin "list.extend.loop" ⟨[.ref q, .ref it, .none], []⟩) Rs s := by
  intro m
  induction m with
  | zero =>
    intro i H' s em hi I hit hq ht nti ntq keep
    obtain rfl : i = zs.length := by omega
    refine codeAny_builtin PySem.F.entry_extend_loop ?_
    rw [Around.under_plainId PySem.F.plain_extend_loop _]
    show wpAny _ A1.in1 (pyNext (.ref it) >>= _) _ _ s
    obtain ⟨its, rv, pl, hz'⟩ := I.tuple ht
    have hlen := rv.length
    refine wpAny_bind (tup_end hh (itT_get I hit) pl (by simp; omega) fun h' eb ex => ?_)
    have I2 := I.write (t' := s.toks) (x := it) (e := it) (o := AnyO it) (by rw [hit]; exact True.intro) (.inl rfl) (fun b u hb e => eb b u hb e) ex (anyO_ok ex)
    refine wpAny_pure (hR _ _ I2 ⟨H', ?_, keep⟩)
    funext b
    by_cases hb : b = q
    · rw [hb, upd_same, upd_ne nqi, hq, List.take_length]
    · rw [upd_ne hb]
  | succ m ih =>
    intro i H' s em hi I hit hq ht nti ntq keep
    have lt : i < zs.length := by omega
    refine codeAny_builtin PySem.F.entry_extend_loop ?_
    rw [Around.under_plainId PySem.F.plain_extend_loop _]
    show wpAny _ A1.in1 (pyNext (.ref it) >>= _) _ _ s
    obtain ⟨its, rv, pl, hz'⟩ := I.tuple ht
    have hx : zs[i]? = some zs[i] := List.getElem?_eq_getElem lt
    obtain ⟨u, hu, ru⟩ := rv.get hx
    refine wpAny_bind (wpAny_pyNext_tuple_item (itT_get I hit) pl (x := u) (by simpa using hu) fun h' st' sb => ?_)
    have I2 := I.write (t' := s.toks) (x := it) (e := it) (o := ItT t it (i + 1)) (by rw [hit]; exact True.intro) (.inl rfl) (fun b u hb e => (sb.2 b hb).trans e) ⟨_, st'.choose_spec.1⟩ (itT_ok st')
    have hq2 : (upd H' it (ItT t it (i + 1))) q = some (.lst (zs.take i)) := by rw [upd_ne nqi]; exact hq
    show wpAny _ A1.in1 (updateSeq q (·.push u) >>= _) _ _ _
    obtain ⟨z, its2, k2, r2, hl2, e2⟩ := I2.lstM hq2
    have hl3 : its2.length = i := by
      rw [← r2.length, List.length_take]
      omega
    refine wpAny_bind (wpAny_updateSeq e2 rfl (wpAny_pure ⟨plainId_quiet PySem.F.plain_extend_loop _, ?_⟩) (by rw [List.size_toArray]; omega) (by show (its2.toArray.push u).size ≤ sizeLine + 1; rw [Array.size_push, List.size_toArray]; omega))
    refine ih (i + 1) _ _ (by omega) lt (I2.lset (its' := its2 ++ [u]) (ys := zs.take i ++ [zs[i]]) (t' := s.toks) hq2 e2 (by simp) (r2.append (.cons ru .nil)) (by rw [List.length_append, List.length_singleton]; omega)) ?_ ?_ ?_ nti ntq ?_
    · rw [upd_ne (Ne.symm nqi), upd_same]
    · rw [upd_same, List.take_succ_eq_append_getElem lt]
    · exact sqT_upd (sqT_upd ht nti) ntq
    · intro b u' n1 n2 e
      rw [upd_ne n2, upd_ne n1]
      exact keep b u' n1 n2 e
/-- list(o) -/
def rOwn2 (K : PySem.W.Frag) (C : Addr) (spI spL : Sp) : List V → Hp → VK → Prop := fun xs H Q => ∃ (a dx : Addr) (fs : List (Str × V)) (t : Addr) (zs : List V) (n : Nat), xs = [.ref a] ∧ H a = some (.ins C dx fs) ∧ SqT K H t zs ∧ zs.length ≤ 1000000 ∧ n ≤ 1000000 ∧ (∃ o, H t = some o) ∧
  ∀ q, H q = none → spI [.ref a] (upd H q (.lst [])) (fun v H' => ∃ it, v = .ref it ∧ upd H q (.lst []) it = none ∧ H' = upd (upd H q (.lst [])) it (ItT t it 0)) C8.E0 ∧
    (∀ it, upd H q (.lst []) it = none → LenP spL a n (upd (upd H q (.lst [])) it (ItT t it 0))) ∧ ∀ H', Same H H' → H' q = some (.lst zs) → Q (.ref q) H'
theorem own_extend2 {t : Addr} {zs : List V} (hh : A1.handled = none) (sb : L2.Sub X (k + 1) A1.in1) (hc : ItO2 X.K C fi fl) (FI : FnOk X.prog X.w X.K X.mg X.base C8.CX0 k fi fdI psI spI) (bI : Binds X.K fdI psI [])
    (FL : FnOk X.prog X.w X.K X.mg X.base C8.CX0 k fl fdL psL spL) (bL : Binds X.K fdL psL []) (hdone : ∀ H' s', L2.Inv X pins σ H' s' → (∀ b u, b ≠ q → H b = some u → H' b = some u) → H' q = some (.lst zs) → Rs (.ok (.ret .none)) s') (herr : ∀ e s, X.xe e s → Rs (.error e) s)
    (I : L2.Inv X pins σ H s) (ha : H a = some (.ins C dx fs)) (hq : H q = some (.lst [])) (ht : SqT X.K H t zs) (hte : ∃ o, H t = some o) (ntq : t ≠ q) (hz : zs.length ≤ 1000000) (hn : n ≤ 1000000)
    (hI : spI [.ref a] H (fun v H' => ∃ it, v = .ref it ∧ H it = none ∧ H' = upd H it (ItT t it 0)) C8.E0) (hL : ∀ it, H it = none → LenP spL a n (upd H it (ItT t it 0))) :
    wpAny (model X.prog X.w) A1.in1 (Builtin.List.listExtendWith (.ref q) (.ref a) .none)
      (fun fin s' => match fin with | .done f => Rs (.ok f) s' | .again c' => c'.quiet = true ∧ codeAny (model X.prog X.w) A1 c' Rs s') (fun e s' => Rs (.error e) s') s := by
  have hne : q ≠ a := ne_of hq ha (fun z => nomatch z)
  obtain ⟨mA, J, _⟩ := ins_get I.hok ha
  obtain ⟨od, J, _⟩ := J.look
  obtain ⟨m0, hF⟩ := I.fr
  unfold Builtin.List.listExtendWith
  refine wpAny_bind (J.type.here ?_)
  have h1 : Builtin.List.listSameRef (.ref q) (.ref a) = false := by simp [Builtin.List.listSameRef, hne]
  have h2 : (Value.ref C == Value.type "list") = false := rfl
  have h3 : (Value.ref C == Value.type "tuple") = false := rfl
  simp only [h1, h2, h3, Bool.or_false, Bool.false_eq_true, if_false]
  refine wpAny_bind (PySem.W.owit_iter hF I.ok.mod.kin J hc.it hc.itF ?_)
  have e0 : Env0 X.prog X.w X.K X.mg X.base A1.in1 X.stack s H := by
    have e := I.env0
    exact ⟨by rw [sb.fr]; exact e.frames, e.mod, e.bs, e.bsz, e.funs, e.frf, e.hok, e.bare⟩
  have hl := FI.len _ _ _ _ hI
  have r2 : Vals [V.ref a] [Value.ref a] := .cons rfl .nil
  refine wpAny_call (codeAny_mono (FI.run A1.in1 X.stack s H ⟨[.ref a], []⟩ [.ref a] [.ref a] _ C8.E0 (sb.mono (Nat.le_succ k)).room e0 (by
    have := bI s [.ref a] I.kIn (by simpa using hl)
    simpa using this) r2 hI) fun r s' hq' => ?_)
  cases r with
  | error e => exact False.elim hq'
  | ok fl2 =>
    cases fl2 with
    | next => exact False.elim hq'
    | brk => exact False.elim hq'
    | cont => exact False.elim hq'
    | ret u =>
      obtain ⟨v, H', I', rv, it, ev, nit, eH⟩ := I.after hq'
      subst ev
      rw [eH] at I'
      cases rv
      have nqi : q ≠ it := ne_of_none hq nit
      have nai : a ≠ it := ne_of_none ha nit
      obtain ⟨oT, hT⟩ := hte
      have nti : t ≠ it := ne_of_none hT nit
      have hit : (upd H it (ItT t it 0)) it = some (ItT t it 0) := upd_same
      have itr := itT_get I' hit
      unfold PySem.W.OwitIt
      refine wpAny_specialOf itr.typeIs F.slot_tuple_iterator_next.lookup ?_
      have ha2 : (upd H it (ItT t it 0)) a = some (.ins C dx fs) := by rw [upd_ne nai]; exact ha
      have hq2 : (upd H it (ItT t it 0)) q = some (.lst []) := by rw [upd_ne nqi]; exact hq
      have fin : ∀ s2, L2.Inv X pins σ (upd H it (ItT t it 0)) s2 → codeAny (model X.prog X.w) A1 (.builtin "list.extend.loop" ⟨[.ref q, .ref it, .none], []⟩) Rs s2 := fun s2 I2 =>
        own_loop2 (H := H) (zs := zs) hh (fun H2 s3 I3 ⟨H0, e, keep⟩ => hdone H2 s3 I3 (fun b u nb hb => by
          rw [e, upd_ne nb, upd_ne (ne_of_none hb nit)]
          exact keep b u (ne_of_none hb nit) nb hb) (by rw [e, upd_same])) (by rw [sizeLine_eq]; omega) nqi zs.length 0 _ s2 (by omega) (Nat.zero_le _) I2 hit (by rw [List.take_zero]; exact hq2) (sqT_upd ht nti) nti ntq
          fun b u n1 n2 hb => by rw [upd_ne n1]; exact hb
      refine wpAny_bind (wpAny_holding (own_hint2 (sb.mono (Nat.le_refl _)).in1 hc FL bL I' ha2 hn (hL it nit) fun b s2 I2 => ?_))
      obtain ⟨z, its, k3, r3, hl3, e3⟩ := I2.lstM hq2
      cases r3
      refine wpAny_ite_split (fun _ => ?_) (fun _ => wpAny_pure ⟨plainId_quiet PySem.F.plain_extend_loop _, fin _ I2⟩)
      refine wpAny_bind (wpAny_rule ?_)
      refine wpAny_bind ?_
      show wpAny _ _ (updateSeq q (·.push .none) >>= fun _ => updateSeq q (·.pop)) _ _ _
      refine wpAny_bind (wpAny_updateSeq e3 rfl ?_)
      have I3 := I2.lset (f := (·.push Value.none)) (its' := [Value.none]) (ys := [.non]) (t' := s2.toks) hq2 e3 (by simp) (.cons rfl .nil) (by rw [List.length_singleton, sizeLine_eq]; decide)
      obtain ⟨z4, its4, k4, r4, hl4, e4⟩ := I3.lstM upd_same
      obtain ⟨u4, rfl, ru4⟩ := r4.one
      refine wpAny_updateSeq e4 rfl ?_ (by show 1 ≤ sizeLine; rw [sizeLine_eq]; decide) (by show 0 ≤ sizeLine + 1; exact Nat.zero_le _)
      refine wpAny_pure ⟨plainId_quiet PySem.F.plain_extend_loop _, fin _ ?_⟩
      have I4 := I3.lset (f := (·.pop)) (its := [u4]) (its' := []) (ys := []) (t' := s2.toks) upd_same e4 (by rfl) .nil (Nat.zero_le _)
      rw [upd_upd] at I4
      have hH : upd (upd H it (ItT t it 0)) q (.lst []) = upd H it (ItT t it 0) := by
        funext b
        by_cases hb : b = q
        · rw [hb, upd_same, hq2]
        · rw [upd_ne hb]
      rw [hH] at I4
      exact I4
theorem call_listOwn2 (hcm : X.calm = true) (hc : ItO2 X.K C fi fl) (FI : FnOk X.prog X.w X.K X.mg X.base C8.CX0 k fi fdI psI spI) (bI : Binds X.K fdI psI []) (FL : FnOk X.prog X.w X.K X.mg X.base C8.CX0 k fl fdL psL spL) (bL : Binds X.K fdL psL []) (hr : Room (k + 3) X.A) :
    CallR X (.type "list") (rOwn2 X.K C spI spL) := by
  intro pins s σ H xs us Q I rv h
  obtain ⟨a, dx, fs, t, zs, n, rfl, ha, ht, hz, hn, hte, hq⟩ := h
  obtain ⟨u, rfl, ru⟩ := rv.one
  cases ru
  have sb : L2.Sub X (k + 1) X.A.in1.in1 := (L2.Sub.in1 (L2.Sub.in1 (⟨hr, rfl⟩ : L2.Sub X (k + 3) X.A)))
  refine callType_codes (Q₁ := fun obj s₁ => obj = .ref s.heap.objs.size ∧ s₁ = { s with heap := s.heap.push { cls := .type "list", data := .seq #[] } }) PySem.F.called_list (PySem.F.typeCall_list_1 _) PySem.F.entry_list_init
    (code_list_new _ ⟨rfl, rfl⟩) fun obj s₁ h₁ => ?_
  obtain ⟨rfl, rfl⟩ := h₁
  have hS : (s.heap.push { cls := .type "list", data := .seq #[] }).get? s.heap.objs.size = some { cls := .type "list", data := .seq #[] } := Heap.get?_push_size _ rfl
  refine ⟨⟨_, hS, rfl⟩, PySem.F.args_list_init_2 _ _, ?_⟩
  have fr : H s.heap.objs.size = none := I.hok.fresh (Nat.le_refl _)
  obtain ⟨hI, hL, fin⟩ := hq _ fr
  have I1 : L2.Inv X pins σ (upd H s.heap.objs.size (.lst [])) { s with heap := s.heap.push { cls := .type "list", data := .seq #[] } } := I.lnew (its := []) (t' := s.toks) .nil (Nat.zero_le _)
  show wpAny _ _ (do let old ← Builtin.List.listItems (.ref s.heap.objs.size); Builtin.List.listUpdate (.ref s.heap.objs.size) (fun _ => #[]); letGo old.toList.reverse; Builtin.List.listExtendWith (.ref s.heap.objs.size) (.ref a) .none) _ _ _
  refine wpAny_bind ?_
  unfold Builtin.List.listItems
  refine wpAny_bind (wpAny_seqItems hS rfl (wpAny_pure ?_))
  show wpAny _ _ (updateSeq s.heap.objs.size (fun _ => #[]) >>= fun _ => letGo (#[] : Array Value).toList.reverse >>= fun _ => Builtin.List.listExtendWith (.ref s.heap.objs.size) (.ref a) .none) _ _ _
  refine wpAny_bind (wpAny_updateSeq hS rfl ?_)
  have I2 := I1.lset (f := fun _ => #[]) (its := []) (its' := []) (ys := []) (t' := s.toks) upd_same hS rfl .nil (Nat.zero_le _)
  rw [upd_upd] at I2
  refine wpAny_bind (wpAny_letGo ?_)
  have ha2 : upd H s.heap.objs.size (.lst []) a = some (.ins C dx fs) := by rw [upd_ne (ne_of_none ha fr)]; exact ha
  obtain ⟨oT, hT⟩ := hte
  have ntq : t ≠ s.heap.objs.size := ne_of_none hT fr
  exact own_extend2 (A1 := X.A.in1) (q := s.heap.objs.size) (Rs := wants (fun r s₂ => r = .none ∧ EP X pins σ Q (.ref s.heap.objs.size) s₂) X.xe) (I.ok.hd hcm) sb hc FI bI FL bL
    (fun H' s' I' keep hz' => ⟨rfl, .ref s.heap.objs.size, H', I', rfl, fin H' (fun b u hb => keep b u (ne_of_none hb fr) (by rw [upd_ne (ne_of_none hb fr)]; exact hb)) hz'⟩) (fun e s' he => he) I2 ha2 upd_same (sqT_upd ht ntq) ⟨oT, by rw [upd_ne ntq]; exact hT⟩ ntq hz hn hI hL
end
end Lay

set_option Elab.async false
set_option linter.all false
set_option maxRecDepth 100000
set_option maxHeartbeats 4000000
/-! LayU: name = [..] on one line, also where an exception is handled -/
namespace Lay
open PySem PySem.Spec PyProof.Rows L2 HotX
section
variable {X : Cx}
theorem lcW_core {elt tg l : Expr} {ifs : List Expr} {scope : Scope} {own : List (Str × Nat)} {pos : Pos} {tl : TE} {g : TG} {tt : TT} {te : TE} {pins : List (Addr × Obj)} {s : Shared} {σ : L2.St} {H : Hp} {Q : VK} {use : Option (Value → Sem Unit)} {Qf : Value → Shared → Prop} {pos' : Pos} (hw : Warm X) (hN : X.N.Nodup)
    (hl : ∀ R : VK, tl σ H R → wpAny (model X.prog X.w) X.A (eval l X.env) (EP X pins σ R) X.xe s) (ok : BlkOk X.N X.env.scope scope own)
    (hg : ∀ s H C cl fp, PG (blkP X s H scope (compEnvC scope cl C X.env) fp) tg g) (ht : ∀ s H C cl fp, PTs (blkP X s H scope (compEnvC scope cl C X.env) fp) ifs tt)
    (he : ∀ s H C cl fp, PE (blkP X s H scope (compEnvC scope cl C X.env) fp) elt te) (I : L2.Inv X pins σ H s) (h : tLcW X.K tl g tt te (own.map (·.2)) σ H Q) (hs : ∀ x, foldedSetIterable l X.env x = pure x)
    (hRR : ∀ D C s' m H', L2.Inv X pins σ H' s' → Q (.ref D) H' → s'.heap.Ns C m → FpOk X pins H' C → compPost (model X.prog X.w) X.A X.xe use Qf (.ref D) C (.ok .next) s') :
    wpAny (model X.prog X.w) X.A (comprehension (.ListComp elt [⟨tg, l, ifs, 0⟩] scope pos) scope X.env pos' (newList []) false (eval l X.env) use) Qf X.xe s := by
  have caught : ∀ y ∈ scope.names, y.2 = .free → ∃ c, X.env.cells.lookup y.1 = some c := fun y hy e => I.ok.has _ ((ok.free y hy e).imp id id)
  refine wpAny_comprehension_free (use := use) rfl hs (closure_ok caught) ok.kind (fun y hy e => by rw [ok.uniq y hy, e]) (thn (hl _ h) ?_)
  rintro u s1 ⟨x, H1, I1, r1, a, xs, f, rfl, sq, step, fin⟩
  cases r1
  obtain ⟨its, rv, isl, hz⟩ := I1.list sq
  refine wpAny_pyIter_list isl.isList ?_
  generalize hit : s1.heap.objs.size = it
  generalize e2 : ({ heap := s1.heap.push { cls := Value.type "list_iterator", data := Data.fields #[Value.ref a, Value.int 0 0] }, gens := s1.gens, drawn := s1.drawn, toks := s1.toks, os := s1.os } : Shared) = s2
  have w2 : s2.heap = s1.heap.push { cls := Value.type "list_iterator", data := Data.fields #[Value.ref a, Value.int 0 0] } := by rw [← e2]
  have keep12 : ∀ b o, s1.heap.get? b = some o → s2.heap.get? b = some o := fun b o e => by rw [w2]; exact Heap.get?_push_of_some _ e
  have I2 : L2.Inv X pins σ H1 s2 := e2 ▸ I1.kept (t' := s1.toks) fun b o e => Heap.get?_push_of_some _ e
  have li2 : s2.heap.IsListIter it a 0 := ⟨_, by rw [w2, ← hit]; exact Heap.get?_push_size _ rfl, rfl, rfl⟩
  refine wpAny_newObj_type (newEnv_comp ?_) (by show 0 ≤ sizeLine; decide)
  generalize hD : s2.heap.objs.size = D
  have noD : H1 D = none := I2.hok.fresh (Nat.le_of_eq hD)
  have itD : it ≠ D := by
    obtain ⟨o, e, _⟩ := li2
    rw [← hD]
    exact Nat.ne_of_lt (Heap.lt_size e)
  generalize e3 : ({ s2 with heap := s2.heap.push { cls := .type "list", data := .seq ([] : List Value).toArray } } : Shared) = s3
  have w3 : s3.heap = s2.heap.push { cls := .type "list", data := .seq ([] : List Value).toArray } := by rw [← e3]
  have keep23 : ∀ b o, s2.heap.get? b = some o → s3.heap.get? b = some o := fun b o e => by rw [w3]; exact Heap.get?_push_of_some _ e
  have I3 : L2.Inv X pins σ (upd H1 D (.lst [])) s3 := by
    have newL : ObjOk X.prog X.w (upd H1 D (.lst [])) (s2.heap.push { cls := .type "list", data := .seq ([] : List Value).toArray }) D (.lst []) := ⟨Nat.zero_le _, [], 0, .nil, by rw [← hD]; exact Heap.get?_push_size _ rfl⟩
    exact e3 ▸ I2.laid (t' := s2.toks) (fun b o e => Heap.get?_push_of_some _ e) (Nat.le_of_eq hD) newL
  have li3 : s3.heap.IsListIter it a 0 := li2.at fun o e => keep23 it o e
  have fresh_it : ∀ {H' : Hp}, H' it = none → FpOk X pins H' it := fun n => I1.fpOk (Nat.le_of_eq hit) n
  have nit : H1 it = none := I1.hok.fresh (Nat.le_of_eq hit)
  have B := block_start (fp := [it]) I3 ok hN (fun b hb => by
    obtain rfl : b = it := by simpa using hb
    obtain ⟨o, e, _⟩ := li3
    exact ⟨fresh_it (by rw [upd_ne itD]; exact nit), Heap.lt_size e⟩)
  have pg := hg s3 (upd H1 D (.lst [])) s3.heap.objs.size (cellsFrom (s3.heap.objs.size + 1) scope.names (cloFrom X.env.cells scope.names [])) [it]
  have pt := ht s3 (upd H1 D (.lst [])) s3.heap.objs.size (cellsFrom (s3.heap.objs.size + 1) scope.names (cloFrom X.env.cells scope.names [])) [it]
  have pe := he s3 (upd H1 D (.lst [])) s3.heap.objs.size (cellsFrom (s3.heap.objs.size + 1) scope.names (cloFrom X.env.cells scope.names [])) [it]
  show codeAny _ _ (.compStart (.ListComp elt [⟨tg, l, ifs, 0⟩] scope pos) 0 (.ref it) (.ref D) (compEnvC scope (cellsFrom (s3.heap.objs.size + 1) scope.names (cloFrom X.env.cells scope.names [])) s3.heap.objs.size X.env))
    (compPost (model X.prog X.w) X.A X.xe use Qf (.ref D) s3.heap.objs.size) { s3 with heap := pushCells (s3.heap.push { cls := .type "dict", data := .dict #[] }) scope.names }
  generalize hce : compEnvC scope (cellsFrom (s3.heap.objs.size + 1) scope.names (cloFrom X.env.cells scope.names [])) s3.heap.objs.size X.env = ce at B pg pt pe ⊢
  have ceL : ce.locals = s3.heap.objs.size := by rw [← hce]; rfl
  generalize e4 : ({ s3 with heap := pushCells (s3.heap.push { cls := .type "dict", data := .dict #[] }) scope.names } : Shared) = s4 at B ⊢
  have keep34 : ∀ b o, s3.heap.get? b = some o → s4.heap.get? b = some o := fun b o e => by rw [← e4]; exact pushCells_keeps _ _ _ _ (Heap.get?_push_of_some _ e)
  have li4 : s4.heap.IsListIter it a 0 := li3.at fun o e => keep34 it o e
  have J4 : L2.Inv (blkP X s3 (upd H1 D (.lst [])) scope ce [it]) [] (wipe σ (own.map (·.2))) (upd H1 D (.lst [])) s4 := by
    refine ⟨B.ok.toTry _ _, B.os, B.bare, B.base, B.loc, B.cell, B.free, B.freeC, fun p hp => ?_, B.hok, B.len⟩
    have hp' : p ∈ X.pn := by simpa using hp
    obtain ⟨p1, p2, p3, p4, p5⟩ := I3.pin p (List.mem_append_left _ hp')
    refine ⟨keep34 _ _ p1, p2, ?_, fun z => ?_, p5⟩
    · show p.1 ≠ ce.locals
      rw [ceL]
      exact Nat.ne_of_lt (Heap.lt_size p1)
    · rcases List.mem_cons.mp (I3.stkSub _ z) with z | z
      · exact p3 z
      · exact p4 z
  have sqD : ∀ acc, SqL X.K (upd H1 D (.lst acc)) a xs := fun acc => SqL.ext sq (Ext.upd noD)
  -- the loop
  have loop : codeAny (model X.prog X.w) X.A (.compLoop (.ListComp elt [⟨tg, l, ifs, 0⟩] scope pos) 0 (.ref it) (.ref D) ce) (compPost (model X.prog X.w) X.A X.xe use Qf (.ref D) s3.heap.objs.size) s4 := by
    refine compLoop_any (fun n s' => ∃ i, i ≤ xs.length ∧ n = xs.length - i ∧ L2.Inv (blkP X s3 (upd H1 D (.lst [])) scope ce [it]) [] (wipe σ (own.map (·.2))) (upd H1 D (.lst ((xs.take i).filterMap f))) s' ∧ s'.heap.IsListIter it a i) ?_ xs.length
      ⟨0, Nat.zero_le _, rfl, by rw [List.take_zero]; exact J4, li4⟩
    rintro n s5 ⟨i, hi, rfl, I5, li5⟩
    obtain ⟨its5, rv5, isl5, hz5⟩ := I5.list (sqD ((xs.take i).filterMap f))
    have len5 := rv5.length
    have fine : ∀ {s' : Shared} {H' : Hp} {σ' : L2.St}, L2.Inv (blkP X s3 (upd H1 D (.lst [])) scope ce [it]) [] σ' H' s' → H' it = none → FpOk (blkP X s3 (upd H1 D (.lst [])) scope ce [it]) [] H' it := fun I' n' => by
      refine ⟨n', (I'.ok.exf it (List.mem_singleton.mpr rfl)).1, I'.ok.exfs it (List.mem_singleton.mpr rfl), .inl (List.mem_singleton.mpr rfl), fun x c e => (I'.ok.exf it (List.mem_singleton.mpr rfl)).2 x c e, fun p hp z => ?_⟩
      have hp' : p ∈ X.pn := by simpa using hp
      have q := (I1.pin p (List.mem_append_left _ hp')).1
      rw [z, ← hit] at q
      exact absurd (Heap.lt_size q) (Nat.lt_irrefl _)
    have n5 : ∀ acc, upd H1 D (.lst acc) it = none := fun acc => by rw [upd_ne itD]; exact nit
    obtain ⟨f0, f1, f2, f3, f4, f5⟩ := fine I5 (n5 _)
    by_cases hlt : i < xs.length
    · have hx : xs[i]? = some xs[i] := List.getElem?_eq_getElem hlt
      obtain ⟨u, hu, ru⟩ := rv5.get hx
      refine thnF (wpAny_pyNext_list_item (Q := fun r s' => r = some u ∧ ∃ h', s' = { s5 with heap := h' } ∧ h'.IsListIter it a (i + 1) ∧ Heap.SameBut it s5.heap h') li5 isl5.isList (x := u) (by simpa using hu) fun h' st' sb => ⟨rfl, h', rfl, st', sb⟩) ?_
      rintro r s6 ⟨rfl, h', rfl, st', sb⟩
      have I6 : L2.Inv (blkP X s3 (upd H1 D (.lst [])) scope ce [it]) [] (wipe σ (own.map (·.2))) (upd H1 D (.lst ((xs.take i).filterMap f))) { s5 with heap := h' } := I5.turned (t' := s5.toks) (fun b o hb e => (sb.2 b hb).trans e) f0 f1 f3 f4 f5
      obtain ⟨oi, ei, ci, di⟩ := id st'
      refine thnF (go_of (Q := fun _ s' => s' = { s5 with heap := h' }) (s := { s5 with heap := h' }) ei ci di (by decide) rfl) ?_
      rintro _ s7 rfl
      have I7 := I6.pinned (fp := [it]) (fun b hb => by obtain rfl : b = it := by simpa using hb
                                                        exact fine I6 (n5 _)) (fun b hb => by obtain rfl : b = it := by simpa using hb
                                                                                              exact ⟨oi, ei, fun v z => by rw [di] at z; cases z⟩)
      refine thnF (pg.run _ _ _ _ xs[i] u _ I7 ru (step D _ xs[i] noD (List.getElem_mem hlt))) ?_
      rintro _ s8 ⟨σ8, H8, I8, rfl, w8, q8⟩
      refine thnF (pt.run _ s8 σ8 _ _ I8 q8) ?_
      rintro b s9 ⟨H9, I9, rfl, q9⟩
      -- the end of a turn
      have next : ∀ {s' : Shared}, L2.Inv (blkP X s3 (upd H1 D (.lst [])) scope ce [it]) ([] ++ pinsAt [it] h') σ8 (upd H1 D (.lst ((xs.take (i + 1)).filterMap f))) s' →
          ∃ m, m < xs.length - i ∧ ∃ i', i' ≤ xs.length ∧ m = xs.length - i' ∧ L2.Inv (blkP X s3 (upd H1 D (.lst [])) scope ce [it]) [] (wipe σ (own.map (·.2))) (upd H1 D (.lst ((xs.take i').filterMap f))) s' ∧ s'.heap.IsListIter it a i' := fun {s'} I' => by
        have q := (I'.pin (it, oi) (List.mem_append_right _ (List.mem_append_right _ (mem_pinsAt (by simp) ei)))).1
        refine ⟨xs.length - (i + 1), by omega, i + 1, hlt, rfl, (I'.unpinned (pins := [])).weak (by rw [← w8, wipe_length]) fun j v e => ?_, ⟨oi, q, ci, di⟩⟩
        rw [← w8] at e
        exact (wipe_some e).1
      have tk : (xs.take (i + 1)).filterMap f = (xs.take i).filterMap f ++ [xs[i]].filterMap f := by rw [List.take_succ_eq_append_getElem hlt, List.filterMap_append]
      have few : ((xs.take i).filterMap f).length < sizeLine := by
        have a1 := List.length_filterMap_le f (xs.take i)
        rw [List.length_take] at a1
        omega
      cases hf : f xs[i] with
      | none =>
        rw [hf] at q9
        obtain rfl : b = false := q9
        have e : (xs.take (i + 1)).filterMap f = (xs.take i).filterMap f := by rw [tk]; simp [hf]
        rw [if_neg Bool.false_ne_true]
        exact next (e ▸ I9)
      | some z =>
        rw [hf] at q9
        obtain ⟨rfl, q9⟩ := q9
        have e : (xs.take (i + 1)).filterMap f = (xs.take i).filterMap f ++ [z] := by rw [tk]; simp [hf]
        rw [if_pos rfl]
        refine thnF (pe.run _ s9 σ8 _ _ I9 q9) ?_
        rintro v s10 ⟨z', H10, I10, r10, rfl, rfl⟩
        refine app_ok (X := blkP X s3 (upd H1 D (.lst [])) scope ce [it]) I10 upd_same few r10 fun s11 I11 => next ?_
        rw [upd_upd] at I11
        rw [e]
        exact I11
    · have last : i = xs.length := by omega
      subst last
      have hand := (hw.blk (X := X) (s := s3) (H := upd H1 D (.lst [])) (scope := scope) (cenv := ce) (fp := [it])).hand _ _ _ _ I5
      refine thnF (list_end_any (Q := fun r s' => r = none ∧ ∃ h', s' = { s5 with heap := h' } ∧ Heap.ExtBut it s5.heap h') hand li5 isl5.isList (by simp; omega) fun h' eb => ⟨rfl, h', rfl, eb⟩) ?_
      rintro r s6 ⟨rfl, h', rfl, eb⟩
      have I6 : L2.Inv (blkP X s3 (upd H1 D (.lst [])) scope ce [it]) [] (wipe σ (own.map (·.2))) (upd H1 D (.lst ((xs.take xs.length).filterMap f))) { s5 with heap := h' } := I5.turned (t' := s5.toks) (fun b o hb e => eb b o hb e) f0 f1 f3 f4 f5
      rw [List.take_length] at I6
      have back : L2.Inv X pins σ (upd H1 D (.lst (xs.filterMap f))) { s5 with heap := h' } := I3.call' (ch := [it]) I6.os I6.base I6.hok I6.bare fun b hb => by
        obtain rfl : b = it := by simpa using hb
        have g := fresh_it (H' := upd H1 D (.lst [])) (n5 _)
        exact ⟨g.2.2.2.1, g.2.1, g.2.2.2.2.1, g.2.2.2.2.2⟩
      have nC : upd H1 D (.lst (xs.filterMap f)) s3.heap.objs.size = none := ceL ▸ I6.free
      obtain ⟨m, hn, _⟩ := I6.loc
      have hn : Heap.Ns h' s3.heap.objs.size m := ceL ▸ hn
      exact hRR D _ { s5 with heap := h' } m _ back (fin D noD) hn (I3.fpOk (Nat.le_refl _) nC)
  exact codeAny_compStart_list loop (wpAny_pyIter_listiter li4 loop)
theorem ps_setLcW {i : Nat} {y : Str} {py : Pos} {elt tg l : Expr} {ifs : List Expr} {scope : Scope} {own : List (Str × Nat)} {pos spos : Pos} {tl : TE} {g : TG} {tt : TT} {te : TE} (hw : Warm X) (hN : X.N.Nodup) (hy : X.N[i]? = some y) (hyl : X.env.scope.names.lookup y = some .local)
    (hsw : swapsWith (.ListComp elt [⟨tg, l, ifs, 0⟩] scope pos) (some (.Name y py)) spos.line X.env = pure true) (hl : PE X l tl) (ok : BlkOk X.N X.env.scope scope own)
    (hg : ∀ s H C cl fp, PG (blkP X s H scope (compEnvC scope cl C X.env) fp) tg g) (ht : ∀ s H C cl fp, PTs (blkP X s H scope (compEnvC scope cl C X.env) fp) ifs tt)
    (he : ∀ s H C cl fp, PE (blkP X s H scope (compEnvC scope cl C X.env) fp) elt te) (hs : ∀ x, foldedSetIterable l X.env x = pure x := by intro _; rfl) :
    PS X (.Assign [.Name y py] (.ListComp elt [⟨tg, l, ifs, 0⟩] scope pos) spos) (tAsg (tLcW X.K tl g tt te (own.map (·.2))) (gName i)) := by
  refine ⟨fun pins s σ H D I h => ?_⟩
  rw [exec_Assign_Name_used _ _ _ _ hsw]
  refine wpAny_bind (wpAny_standAt (wpAny_bind ?_))
  show wpAny _ X.A (do let _ ← comprehension (.ListComp elt [⟨tg, l, ifs, 0⟩] scope pos) scope X.env (firstIterPos [⟨tg, l, ifs, 0⟩] pos) (newList []) false (eval l X.env) (some (assign (.Name y py) X.env))) _ _ s
  have h : tLcW X.K tl g tt te (own.map (·.2)) σ H (fun x H1 => gName i x σ H1 D.nx) := h
  refine wpAny_bind (thn (lcW_core (Qf := fun _ s' => SP X pins D .next s') hw hN (fun R r => hl.run pins s σ H R I r) ok hg ht he I h hs fun L C s' m H' I' q hn f => ?_) fun _ s' hq => wpAny_pure (wpAny_pure hq))
  show wpAny _ _ (assign (.Name y py) X.env (.ref L)) _ _ _
  refine wpAny_assign_Name (store_ok2 (v := V.ref L) I' hN hy (.inl hyl) rfl (fun s2 I2 ⟨a, sb, ha⟩ => ?_) (.inr hyl))
  obtain ⟨f0, f1, f2, f3, f4, f5⟩ := f
  have haC : C ≠ a := by
    rcases ha with z | z
    · rw [z]; exact f1
    · exact fun e => f4 y a z e.symm
  refine ⟨m, hn.sameBut sb haC, fun h3 sb3 => ?_⟩
  exact ⟨_, H', I2.turned (t' := s2.toks) (fun b o hb e => (sb3.2 b hb).trans e) f0 f1 f3 f4 f5, q⟩
end
end Lay

set_option Elab.async false
set_option linter.all false
set_option maxRecDepth 100000
set_option maxHeartbeats 4000000
/-! LayV: a clause's test that is a tuple of names, of any number -/
namespace Lay
open PySem PySem.Spec PySem.Calls PyProof.Rows PySem.W
theorem forIn_all {M : Model} {h : Heap} {α β : Type} {body : α → β → Sem (ForInStep β)} {b0 : β} : ∀ {cs : List α}, (∀ c ∈ cs, Looks M h (body c b0) (.yield b0)) → Looks M h (forIn cs b0 body) b0
  | [], _ => by
    rw [List.forIn_nil]
    exact .now
  | c :: r, hb => by
    rw [List.forIn_cons]
    exact (hb c List.mem_cons_self).andThen (forIn_all fun d hd => hb d (List.mem_cons_of_mem _ hd))
theorem forIn_any {M : Model} {h : Heap} {α β : Type} {body : α → β → Sem (ForInStep β)} {b0 bT : β} {v : α → Bool} : ∀ {cs : List α}, (∀ c ∈ cs, Looks M h (body c b0) (if v c = true then .done bT else .yield b0)) → Looks M h (forIn cs b0 body) (if cs.any v = true then bT else b0)
  | [], _ => by
    rw [List.forIn_nil]
    exact .now
  | c :: r, hb => by
    rw [List.forIn_cons, List.any_cons]
    have h0 := hb c List.mem_cons_self
    cases e : v c with
    | true =>
      rw [e] at h0
      exact h0.andThen .now
    | false =>
      rw [e] at h0
      rw [Bool.false_or]
      exact h0.andThen (forIn_any fun d hd => hb d (List.mem_cons_of_mem _ hd))
/-- the answers of the classes -/
theorem exmAny_all {K : Frag} {cls : Value} : ∀ {cs : List Value} {b : Bool}, exmAny K cls cs = some b → ∃ v : Value → Bool, (∀ c ∈ cs, exmOne K cls c = some (v c)) ∧ cs.any v = b := by
  intro cs b h
  refine ⟨fun c => (exmOne K cls c).getD false, ?_⟩
  induction cs generalizing b with
  | nil =>
    cases h
    exact ⟨(fun c hc => by cases hc), rfl⟩
  | cons c r ih =>
    obtain ⟨b1, d1, h1, h2, rfl⟩ := exmAny_cons h
    obtain ⟨i1, i2⟩ := ih h2
    refine ⟨fun d hd => ?_, ?_⟩
    · rcases List.mem_cons.mp hd with rfl | hd
      · dsimp only
        rw [h1]
        rfl
      · exact i1 d hd
    · rw [List.any_cons, i2, h1]
      rfl
theorem exm_tupN {M : Model} {K : Frag} {cs : List Value} {cls : Value} {tp e : Addr} {b : Bool} {h : Heap} (X : K.In h) (LT : Looks M h (typeOf (.ref e)) cls) (hp : h.get? tp = some { cls := .type "tuple", data := .seq cs.toArray }) (hx : exmAny K cls cs = some b) :
    Looks M h (excMatches (.ref e) (.ref tp)) b := by
  intro A Q E s k₀ q
  obtain ⟨hh, g, d, tk, os⟩ := s
  have k : ∀ b o, h.get? b = some o → hh.get? b = some o := k₀
  have LT0 : Looks M h (isInstance (.ref tp) (.type "tuple")) true := ((Looks.ld hp).andThen .now).andThen (Looks.of_pure isSubtype_tuple_tuple)
  obtain ⟨v, hv, rfl⟩ := exmAny_all hx
  have LT := LT.keeps k
  have LT0 := LT0.keeps k
  have hp' := k _ _ hp
  unfold excMatches
  refine wpAny_bind (LT0.at ?_)
  dsimp only
  rw [if_pos rfl]
  first
    | refine wpAny_bind (wpAny_seqItems hp' rfl ?_)
    | refine wpAny_bind (wpAny_bind (wpAny_seqItems hp' rfl (wpAny_pure ?_)))
  dsimp only [Option.getD_some, Option.getD]
  refine wpAny_bind (wpAny_pure ?_)
  refine wpAny_bind ((forIn_all (cs := cs) fun c hc => ?_).at ?_)
  · obtain ⟨e1, _⟩ := exm_cls (M := M) X (hv c hc)
    exact (e1.keeps k).andThen .now
  · refine wpAny_bind (LT.at ?_)
    refine wpAny_bind ((forIn_any (cs := cs) (v := v) (bT := (some true, ())) fun c hc => ?_).at ?_)
    · obtain ⟨_, S1⟩ := exm_cls (M := M) X (hv c hc)
      refine (S1.keeps k).andThen ?_
      cases v c <;> exact .now
    · cases e : cs.any v with
      | true =>
        rw [e] at q
        exact wpAny_pure q
      | false =>
        rw [e] at q
        exact wpAny_pure q
end Lay
namespace Lay
open PySem PySem.Spec PyProof.Rows L2 HotX L2H
inductive NamesL (X : Cx) : List Expr → List Value → Prop
  | nil : NamesL X [] []
  | cons {x : Str} {np : Pos} {c : Value} {es : List Expr} {cs : List Value} (h : Names X x c) (r : NamesL X es cs) : NamesL X (.Name x np :: es) (c :: cs)
theorem NamesL.run {X : Cx} {p : Addr × Obj} {pn pins : List (Addr × Obj)} {σ : L2.St} {H : Hp} {s : Shared} {E : Value → Shared → Prop} {pos : Pos} (I : L2.Inv (X.suite p.1 (p :: pn)) pins σ H s) {es : List Expr} {cs : List Value} (n : NamesL X es cs) :
    ∀ {Q : List Value → Shared → Prop}, Q cs s → wpAny (model X.prog X.w) (X.A.mark (some (.ref p.1))) (spliced (backTo pos (starEach es X.env))) Q E s := by
  induction n with
  | nil => exact fun q => wpAny_items_nil q
  | cons h r ih =>
    intro Q q
    obtain ⟨hg, hdbg, hm | ⟨hm, hv, hnn⟩⟩ := h
    · exact wpAny_items_cons (ld_glob (X := X.suite p.1 (p :: pn)) I hg hm (ih q) hdbg)
    · exact wpAny_items_cons (ld_blt (X := X.suite p.1 (p :: pn)) I hg hm hv (ih q) hnn hdbg)
theorem tst_tup {X : Cx} {es : List Expr} {cs : List Value} {k : Nat} {tpos : Pos} (n : NamesL X es cs) (few : cs.length ≤ 1000) : Tst X (.Tuple es k tpos) (fun cls => PySem.W.exmAny X.K cls cs) := by
  intro p pn pins σ H s b Q E I hm h
  have at_p := (I.pin p (List.mem_append_left _ List.mem_cons_self)).1
  have ty : PySem.W.Looks (model X.prog X.w) s.heap (typeOf (.ref p.1)) p.2.cls := fun A Q E s k q => wpAny_typeOf_ref (k _ _ at_p) q
  refine wpAny_Tuple (n.run I ⟨small (by omega), ?_⟩)
  have kp : ∀ q o, s.heap.get? q = some o → (s.heap.push { cls := .type "tuple", data := .seq cs.toArray }).get? q = some o := fun _ _ z => Heap.get?_push_of_some _ z
  exact (exm_tupN (M := model X.prog X.w) (I.kIn.keeps kp) (ty.keeps kp) (Heap.get?_push_size s.heap rfl) hm).here (h _ s.toks kp)
end Lay

set_option Elab.async false
set_option linter.all false
set_option maxRecDepth 100000
set_option maxHeartbeats 4000000
/-! LayW: x (not) in a list of nested data; pigeonhole -/
namespace Lay
open PySem PySem.Spec PyProof.Rows L2
def rNotInD (K : PySem.W.Frag) : V → V → Hp → VK → Prop := fun x y H Q => ∃ d ds, Dp K H x d ∧ Dp K H y (.list ds) ∧ SeqAt.shaped d = true ∧ SeqAt.shaped (.list ds) = true ∧ Q (.bl (!ds.any fun e => PyData.eqv e d)) H
theorem op_notInD {X : Cx} (hu : X.A.units + 65 < cLine) : OpR X (compareOp .NotIn) (rNotInD X.K) := by
  intro pins s σ H x y v u Q I rx ry h
  obtain ⟨d, ds, hd, he, sd, se, q⟩ := h
  obtain ⟨as, r1⟩ := Dp.reads I d x v hd rx
  obtain ⟨bs, r2⟩ := Dp.reads I (.list ds) y u he ry
  exact PySem.SeqAt.notIn_list_reads r2 r1 (SeqAt.canLay_of_shaped se) (SeqAt.canLay_of_shaped sd) (room_in_shaped sd hu) ⟨.bl _, H, I, rfl, q⟩
/-- more different things than fit into ys do not all stand there -/
theorem pigeons {α : Type} [DecidableEq α] : ∀ {xs ys : List α}, xs.Nodup → (∀ x ∈ xs, x ∈ ys) → xs.length ≤ ys.length
  | [], _, _, _ => Nat.zero_le _
  | x :: xs, ys, nd, h => by
    rw [List.nodup_cons] at nd
    have hx := h x List.mem_cons_self
    have ih := pigeons (ys := ys.erase x) nd.2 fun y hy => (List.mem_erase_of_ne (fun e : y = x => nd.1 (by rw [← e]; exact hy))).mpr (h y (List.mem_cons_of_mem _ hy))
    rw [List.length_erase_of_mem hx] at ih
    have := List.length_pos_of_mem hx
    rw [List.length_cons]
    omega
end Lay
namespace Lay
open PySem PySem.Spec PyProof.Rows L2
open SX (S S_len)
/-- 'x' * n, also none and once -/
def rRepN : R2 := fun x y H Q => ∃ (c : Nat) (n : Nat), x = .str (S [c]) ∧ y = .int (n : Int) ∧ n ≤ 1000000 ∧ Q (.str (S (List.replicate n c))) H
theorem op_repN {X : Cx} : OpR X (binaryOp .Mult) rRepN := by
  rintro pins s σ H x y v u Q I rx ry ⟨c, n, rfl, rfl, hm, q⟩
  by_cases h2 : 2 ≤ n
  · exact op_repS pins s σ H _ _ v u Q I rx ry ⟨c, n, rfl, rfl, h2, hm, q⟩
  · obtain ⟨t, rfl⟩ := rx
    obtain ⟨t', rfl⟩ := ry
    have l1 : (S [c]).length = 1 := S_len _
    by_cases h0 : n = 0
    · subst h0
      exact P.mul_str_none (by decide) (by decide) ⟨.str _, H, I.tok _, ⟨_, rfl⟩, q⟩
    · obtain rfl : n = 1 := by omega
      refine P.mul_str (by decide) (fun _ z => ?_) (fun _ z => ?_) ?_
      · exact absurd (show true = false from z) (by decide)
      · exact absurd (show true = false from z) (by decide)
      · rw [if_neg (by decide), if_pos (show (((1 : Nat) : Int) == 1 || (S [c]).length == 0) = true from rfl)]
        exact ⟨.str _, H, I, ⟨_, rfl⟩, q⟩
end Lay

set_option Elab.async false
set_option linter.all false
set_option maxRecDepth 100000
set_option maxHeartbeats 4000000
/-! DD20: _law_barred, _law_name -/
namespace W20
open PySem PySem.Spec PyProof.Rows L2 Lay
open SX (S S_len S_cat S_tl)
open C8 (Cal pe_c pe_gc fnScope_by E0 sl_txt rSlX)
theorem pe_c0 {X : Cx} {k j : Nat} {x : Str} {sp : Sp} {dvs : List V} {p pos : Pos} (c : Cal X.prog X.w X.K X.mg X.base k x sp dvs) (hr : Room j X.A) (hk : k ≤ j) (hg : Gl X x) (hdb : (x == ("__debug__" : Str)) = false := by decide) :
    PE X (.Call (.Name x p) [] [] pos) (tCall sp dvs C8.E0 tNil) := by
  obtain ⟨f, fd, ps, ds, F, hm, kp, b, d⟩ := c.ex
  exact pe_call0 F (hr.mono hk) hg hm kp b d C8.pass0 hdb
theorem Ex.rf {b : Addr} {H : Hp} (g : Bag H b) : Ex b H H := ⟨fun _ _ _ e => e, g, fun l r e => ⟨r, e⟩⟩
theorem Bag.same {b : Addr} {H H' : Hp} (g : Bag H b) (e : Same H H') : Bag H' b := by
  obtain ⟨l0, ns, pos, big, mixed, cnt, left, e1, e2, e3⟩ := g
  exact ⟨l0, ns, pos, big, mixed, cnt, left, e _ _ e1, e _ _ e2, e3⟩
theorem Ex.sm {b : Addr} {H H1 H2 : Hp} (x : Ex b H H1) (s : Same H1 H2) : Ex b H H2 := ⟨fun a o n e => s _ _ (x.keep a o n e), x.bag.same s, fun l r e => by
  obtain ⟨r', e'⟩ := x.list l r e
  exact ⟨r', s _ _ e'⟩⟩
/-- an object that is no part of the bag is written -/
theorem Ex.put {b D : Addr} {H H1 : Hp} {o : HO} (x : Ex b H H1) (g : Bag H b) (hD : H D = none) : Ex b H (upd H1 D o) := by
  obtain ⟨l0, ns0, pos0, big0, mixed0, cnt0, left0, f1, f2, f3⟩ := id g
  have nb : D ≠ b := fun z => by rw [z, f1] at hD; cases hD
  have nl : D ≠ l0 := fun z => by rw [z, f2] at hD; cases hD
  obtain ⟨r', e'⟩ := x.list _ _ f1
  obtain ⟨l1, ns, pos, big, mixed, cnt, left, e1, e2, e3⟩ := x.bag
  have el : l1 = l0 := by
    rw [e'] at e1
    cases e1
    rfl
  subst el
  refine ⟨fun a u n e => ?_, ⟨l1, ns, pos, big, mixed, cnt, left, by rw [upd_ne (Ne.symm nb)]; exact e1, by rw [upd_ne (Ne.symm nl)]; exact e2, e3⟩, fun l r e => ?_⟩
  · rw [upd_ne (ne_of_none e hD)]
    exact x.keep a u n e
  · obtain ⟨r2, e4⟩ := x.list l r e
    exact ⟨r2, by rw [upd_ne (Ne.symm nb)]; exact e4⟩
theorem pick_new {b l : Addr} {xs : List V} {H : Hp} {Q : VK} {E : XK} (bag : Bag H b) (hl : H l = none) (p1 : 0 < xs.length) (p2 : xs.length ≤ 1000) (k : ∀ H' v, Ex b H H' → v ∈ xs → Q v H') : spPick [.ref b, .ref l] (upd H l (.lst xs)) Q E :=
  ⟨b, .ref l, rfl, (bag_new bag hl).2, .inl ⟨l, xs, rfl, upd_same, (bag_new (o := .lst xs) bag hl).1, p1, p2, fun H' v ex hv => k H' v (((Ex.rf bag).sm (same_new hl)).tr ex) hv⟩⟩
theorem pick_txt {b : Addr} {a : List Nat} {H : Hp} {Q : VK} {E : XK} (bag : Bag H b) (p1 : 0 < a.length) (p2 : a.length ≤ 1000) (k : ∀ H' c, Ex b H H' → c ∈ a → Q (.str (S [c])) H') : spPick [.ref b, .str (S a)] H Q E :=
  ⟨b, _, rfl, bag, .inr ⟨a, rfl, p1, p2, k⟩⟩
section
variable {P : Program} {w : World} {K : PySem.W.Frag} {mg : Str → Option Value} {base : Heap} {f : Addr} {fd : FuncData}
theorem sc48 : FnScope ["words"] [] (defScope (top 45)) := fnScope_by (by decide +kernel)
def spBarred : Sp := fun vs H Q _ => vs = [] ∧ ∀ a, H a = none → Q (.ref a) (upd H a (.lst (W20.reserved.map V.str)))
def barS : Str := "book form drawing tree shown hidden seen chance table over of node pivot none weight looks ladder lead family lot done swap left right as"
theorem bar_split : Txt.split barS " " = W20.reserved := by
  have e : barS = S barS.cps.toList := (S_tl barS).symm
  have e32 : (" " : Str) = S [32] := by decide +kernel
  rw [e, e32, SX.split_S (by simp) (by decide)]
  decide +kernel
theorem ok_barred (m : Mg K mg) (F : Fn K "_law_barred" 45 f fd) (g : mg "_law_barred" = some (.ref f)) : Cal P w K mg base 1 "_law_barred" spBarred [] := by
  have sc := sc48
  refine calD F g sc (fun _ _ _ _ _ _ us hl => match us, hl with | [], _ => rfl) ?_ fun cdv A outer s H vs Q E hr h => ?_
  · rintro vs H Q E ⟨rfl, _⟩
    rfl
  · obtain ⟨rfl, q⟩ := h
    refine ⟨_, (pss_cons (ps_set (i := 0) sc.nd rfl (.inl rfl) pe_str)
      (pss_one (ps_ret (pe_split (pe_op op_add_str (pv 0) pe_str) pe_str)))), ?_⟩
    simp only [L2.start, cxOf, tRet, tAndV, tOrV, tNotV, tCB, tCons, tNil, tVar, tC, tOp, tUn, tTest, tB, tIf, tIfS, tSeq, tAsg, tAnd, tOr, tNot, gName, tNext, tCall, tChain, rI, rI0, rEq, rNe, rGcd, rU, tM1, tM0, tSl, tPart, tNoPart, gTup, gCons, gNil, gSub, tTup, tLst, tPar, L2.rI, List.map_cons, List.map_nil, List.length_cons, List.length_nil, List.cons_append, List.nil_append, List.append_nil, List.getElem?_cons_zero, List.getElem?_cons_succ, List.set_cons_zero, List.set_cons_succ, Option.some.injEq, exists_eq_left, exists_eq_left', exists_eq_right, exists_and_left, exists_and_right, List.cons.injEq, and_true, true_and, V.int.injEq, V.str.injEq, V.bl.injEq, V.ref.injEq, List.replicate, Nat.reduceAdd, Nat.reduceSub, reduceCtorEq, false_and, and_false, if_true, if_false, Bool.false_eq_true, Bool.not_true, Bool.not_false, decide_eq_true_eq, exists_false, or_false, false_or]
    have e : Str.ofString "book form drawing tree shown hidden seen chance table over of node pivot none weight" ++ Str.ofString " looks ladder lead family lot done swap left right as" = barS := by decide +kernel
    rw [e]
    refine ⟨small (by decide +kernel), ⟨_, rfl⟩, rfl, small (by decide +kernel), fun p hp => ?_⟩
    rw [bar_split]
    exact q p hp
theorem join_one (ds : List Nat) : Txt.join (Str.ofString "") (ds.map fun d => S [d]) = S ds := by
  have e0 : (Str.ofString "") = S [] := by decide +kernel
  have em : (ds.map fun d => S [d]) = (ds.map fun d => [d]).map S := by rw [List.map_map]; rfl
  rw [e0, em, SX.join_S]
  congr 1
  have : ∀ ps : List (List Nat), TL.joinL [] ps = ps.flatten := by
    intro ps
    induction ps with
    | nil => rfl
    | cons a r ih =>
      cases r with
      | nil => simp [TL.joinL]
      | cons b r =>
        show a ++ ([] ++ TL.joinL [] (b :: r)) = a ++ (b :: r).flatten
        rw [ih]
        rfl
  rw [this]
  induction ds with
  | nil => rfl
  | cons d r ih =>
    rw [List.map_cons, List.flatten_cons, ih (by rw [List.map_map]; rfl)]
    rfl
theorem let_sign : ∀ c ∈ LETL, c ∈ SIGNL := by decide +kernel
theorem res_name : ∀ w ∈ RESL, nameB (w ++ [48]) = true := by decide +kernel
theorem made_name {c : Nat} {ds : List Nat} (hc : c ∈ LETL) (hd : ∀ d ∈ ds, d ∈ SIGNL) (hl : ds.length ≤ 7) (nr : c :: ds ∉ RESL) : nameB (c :: ds) = true := by
  unfold nameB valueB
  have h1 : (1 ≤ (c :: ds).length ∧ (c :: ds).length ≤ 8) := by
    rw [List.length_cons]
    omega
  have h2 : ((c :: ds).all fun c => decide (c ∈ SIGNL)) = true := by
    rw [List.all_eq_true]
    intro d hd2
    rcases List.mem_cons.mp hd2 with rfl | hd2
    · exact decide_eq_true (let_sign _ hc)
    · exact decide_eq_true (hd d hd2)
  rw [decide_eq_true h1, h2, decide_eq_false nr]
  show (true && true && (decide (c ∈ LETL) && !false)) = true
  rw [decide_eq_true hc]
  rfl
theorem sc49 : FnScope ["bag", "size", "signs", "made", "k"] ["bag"] (defScope (top 46)) := fnScope_by (by decide +kernel)
def spName : Sp := fun vs H Q _ => ∃ b, vs = [.ref b] ∧ Bag H b ∧ ∀ H' u, Ex b H H' → nameB u = true → Q (.str (S u)) H'
theorem ok_name (m : Mg K mg) (c__law_of : Cal P w K mg base 2 "_law_of" spPick []) (c__law_barred : Cal P w K mg base 1 "_law_barred" spBarred []) (F : Fn K "_law_name" 46 f fd) (g : mg "_law_name" = some (.ref f)) : Cal P w K mg base 3 "_law_name" spName [] := by
  have sc := sc49
  refine calD F g sc (fun _ _ _ _ _ _ us hl => match us, hl with | [_], _ => rfl) ?_ fun cdv A outer s H vs Q E hr h => ?_
  · rintro vs H Q E ⟨b, rfl, _⟩
    rfl
  · obtain ⟨b, rfl, bag, q⟩ := h
    refine ⟨_, (pss_cons (ps_set (i := 1) sc.nd rfl (.inl rfl) (pe_c c__law_of hr (by decide) (by rfl) (pa_cons (pv 0) (pa_cons (pe_lst (pa_cons pe_int (pa_cons pe_int (pa_cons pe_int (pa_cons pe_int (pa_cons pe_int (pa_cons pe_int (pa_cons pe_int (pa_cons pe_int pa_nil))))))))) pa_nil))))
      (pss_cons (ps_set (i := 2) sc.nd rfl (.inr rfl) pe_str)
      (pss_cons (ps_set (i := 3) sc.nd rfl (.inl rfl) (pe_join pe_str (pe_op op_cat (pe_lst (pa_cons (pe_c c__law_of hr (by decide) (by rfl) (pa_cons (pv 0) (pa_cons (pe_slice sl_txt (pv 2) po_none (po_some pe_int)) pa_nil))) pa_nil)) (pe_lc (own := [("k", 4)]) (g := gName 4) (by rfl) sc.nd (pi_range1 rfl m.range_ (pa_cons (pv 1) pa_nil)) (blkOk_by (own := [("k", 4)]) (N := ["bag", "size", "signs", "made", "k"]) (sc := defScope (top 46)) (by decide +kernel)) (fun _ _ _ _ _ => pg_name (i := 4) sc.nd rfl (.inl rfl)) (fun _ _ _ _ _ => pts_nil) (fun _ _ _ _ _ => pe_c c__law_of hr (by decide) (by rfl) (pa_cons (pv 0) (pa_cons (pv 2) pa_nil)))))))
      (pss_one (ps_ret (pe_ifExp (pt_cmpR op_in_seq (pv 3) (pe_c0 c__law_barred hr (by decide) (by rfl)) rfl) (pe_op op_add_str (pv 3) pe_str) (pv 3))))))), ?_⟩
    simp only [L2.start, cxOf, tRet, tAndV, tOrV, tNotV, tCB, tCons, tNil, tVar, tC, tOp, tUn, tTest, tB, tIf, tIfS, tSeq, tAsg, tAnd, tOr, tNot, gName, tNext, tCall, tChain, rI, rI0, rEq, rNe, rGcd, rU, tM1, tM0, tSl, tPart, tNoPart, gTup, gCons, gNil, gSub, tTup, tLst, tPar, L2.rI, List.map_cons, List.map_nil, List.length_cons, List.length_nil, List.cons_append, List.nil_append, List.append_nil, List.getElem?_cons_zero, List.getElem?_cons_succ, List.set_cons_zero, List.set_cons_succ, Option.some.injEq, exists_eq_left, exists_eq_left', exists_eq_right, exists_and_left, exists_and_right, List.cons.injEq, and_true, true_and, V.int.injEq, V.str.injEq, V.bl.injEq, V.ref.injEq, List.replicate, Nat.reduceAdd, Nat.reduceSub, reduceCtorEq, false_and, and_false, if_true, if_false, Bool.false_eq_true, Bool.not_true, Bool.not_false, decide_eq_true_eq, exists_false, or_false, false_or, rSlX]
    refine ⟨small (by decide), fun l hl => pick_new bag hl (by simp) (by simp) fun H1 v x1 hv => ?_⟩
    obtain ⟨n, rfl, hn⟩ : ∃ n : Nat, v = .int (n : Int) ∧ n ≤ 7 := by
      simp only [List.mem_cons, List.not_mem_nil, or_false] at hv
      rcases hv with rfl | rfl | rfl | rfl | rfl | rfl | rfl | rfl
      · exact ⟨0, rfl, by decide⟩
      · exact ⟨0, rfl, by decide⟩
      · exact ⟨0, rfl, by decide⟩
      · exact ⟨1, rfl, by decide⟩
      · exact ⟨1, rfl, by decide⟩
      · exact ⟨2, rfl, by decide⟩
      · exact ⟨4, rfl, by decide⟩
      · exact ⟨7, rfl, by decide⟩
    have e36 : (Str.ofString "abcdefghijklmnopqrstuvwxyz0123456789") = S SIGNL := (S_tl _).symm
    have e26 : SIGNL.take (Int.toNat 26) = LETL := by decide +kernel
    have l36 : SIGNL.length = 36 := by decide +kernel
    have l26 : LETL.length = 26 := by decide +kernel
    have szl := sizeLine_eq
    rw [e36, SX.slice_to (by decide), e26]
    refine ⟨⟨_, rfl⟩, small (by rw [S_len, l36]; decide), pick_txt x1.bag (by rw [l26]; decide) (by rw [l26]; decide) fun H2 c x2 hc => ⟨small (by decide), fun p hp => ?_⟩⟩
    have x12 := x1.tr x2
    have x3 := x12.sm (same_new (o := .lst [V.str (S [c])]) hp)
    have hp3 := upd_same (H := H2) (a := p) (o := .lst [V.str (S [c])])
    have pb : p ≠ b := (bag_new (o := .lst [V.str (S [c])]) x12.bag hp).1
    generalize upd H2 p (.lst [V.str (S [c])]) = H3 at x3 hp3 ⊢
    refine lc_range (n := n) (by omega) (fun R k => ⟨_, rfl, k⟩) (fun _ => rfl) fun D hD => ⟨fun i H' => Ex b H3 H' ∧ ∃ ds : List Nat, ds.length = i ∧ (∀ d ∈ ds, d ∈ SIGNL) ∧ H' D = some (.lst (ds.map fun d => V.str (S [d]))), ⟨(Ex.rf x3.bag).sm (same_new hD), [], rfl, (fun _ z => by cases z), upd_same⟩, ?_, ?_⟩
    · rintro i H' hi ⟨x4, ds, hl4, hds, hDs⟩
      have Db : D ≠ b := fun z => by
        obtain ⟨l0, ns0, pos0, big0, mixed0, cnt0, left0, f1, _⟩ := x3.bag
        rw [z, f1] at hD
        cases hD
      refine ⟨_, rfl, _, rfl, pick_txt (E := C8.E0) x4.bag (by rw [l36]; decide) (by rw [l36]; decide) fun H5 d x5 hd => ⟨_, x5.keep _ _ Db hDs, by rw [List.length_map, hl4, szl]; omega, (x4.tr x5).put x3.bag hD, ds ++ [d], by rw [List.length_append, hl4]; rfl, fun d' h' => ?_, ?_⟩⟩
      · rcases List.mem_append.mp h' with h' | h'
        · exact hds d' h'
        · rw [List.mem_singleton.mp h']
          exact hd
      · rw [upd_same, List.map_append]
        rfl
    · rintro H' ⟨x4, ds, hl4, hds, hDs⟩
      have hpD := x4.keep _ _ pb hp3
      refine ⟨p, D, _, _, rfl, rfl, hpD, hDs, by rw [List.length_map, hl4, List.length_singleton, szl]; omega, fun r hr2 => ?_⟩
      have x5 := (x3.tr x4).sm (same_new (o := .lst ([V.str (S [c])] ++ ds.map fun d => V.str (S [d]))) hr2)
      have sq : ([V.str (S [c])] ++ ds.map fun d => V.str (S [d])) = ((c :: ds).map fun d => S [d]).map V.str := by
        rw [List.map_map]
        rfl
      refine ⟨r, rfl, (c :: ds).map fun d => S [d], .inl (SqL.of (by rw [upd_same, sq])), ?_, rfl, fun r2 hr3 => ?_⟩
      · have e0 : (Str.ofString "").length = 0 := by decide +kernel
        have e1 : (((c :: ds).map fun d => S [d]).map fun x : Str => x.length) = (c :: ds).map fun _ => 1 := by
          rw [List.map_map]
          exact List.map_congr_left fun d _ => by show (S [d]).length = 1; rw [S_len]; rfl
        rw [e0, e1, Nat.mul_zero, List.map_const', List.sum_replicate_nat, List.length_cons, hl4]
        omega
      · have x6 := x5.sm (same_new (o := .lst (W20.reserved.map V.str)) hr3)
        refine ⟨r2, _, rfl, .inl (SqL.of upd_same), rfl, by decide +kernel, ?_⟩
        rw [if_neg (by decide), join_one, inV_S]
        refine ⟨_, rfl, ?_⟩
        by_cases hm : (c :: ds) ∈ RESL
        · rw [if_pos (show decide ((c :: ds) ∈ W20.reserved.map fun x => x.cps.toList) = true from decide_eq_true hm)]
          have e0 : (Str.ofString "0") = S [48] := by decide +kernel
          rw [e0, S_cat, S_len, S_len]
          refine ⟨small (by rw [List.length_cons, hl4, List.length_singleton]; omega), q _ _ x6 (res_name _ hm)⟩
        · rw [if_neg (show ¬ decide ((c :: ds) ∈ W20.reserved.map fun x => x.cps.toList) = true from fun z => hm (of_decide_eq_true z))]
          exact q _ _ x6 (made_name hc hds (by omega) hm)
end
end W20

set_option Elab.async false
set_option linter.all false
set_option maxRecDepth 100000
set_option maxHeartbeats 4000000
/-! HP20: small helpers -/
namespace W20
open PySem PySem.Spec PyProof.Rows L2 Lay
open SX (S S_len S_cat S_tl)
theorem name_len {u : List Nat} (h : nameB u = true) : u.length ≤ 8 := by
  unfold nameB valueB at h
  simp only [Bool.and_eq_true, decide_eq_true_eq] at h
  omega
theorem at_last {α : Type} {xs : List α} {v : α} (h : xs.getLast? = some v) : atI xs (-1) = some v := by
  have lp : 0 < xs.length := List.length_pos_iff.mpr fun e => by
    rw [e] at h
    cases h
  unfold atI ixN
  rw [if_neg (by decide), if_pos (by omega)]
  show xs[((-1 : Int) + (xs.length : Int)).toNat]? = _
  rw [show ((-1 : Int) + (xs.length : Int)).toNat = xs.length - 1 by omega, ← List.getLast?_eq_getElem?]
  exact h
theorem ixN_at {n j : Nat} (h : j < n) : ixN n (j : Int) = some j := by
  unfold ixN
  rw [if_pos (by omega), if_pos (by omega)]
  rfl
theorem sign_ok : ∀ c ∈ SIGNL, c < 0x110000 := by decide +kernel
theorem name_ok {u : List Nat} (h : nameB u = true) : PyData.strOk (S u) = true := by
  unfold nameB valueB at h
  simp only [Bool.and_eq_true, decide_eq_true_eq, List.all_eq_true] at h
  unfold PyData.strOk
  rw [Array.all_eq_true']
  intro c hc
  exact decide_eq_true (sign_ok c (h.1.2 c (by simpa using hc)))
theorem new_ne {b a : Addr} {H : Hp} (g : Bag H b) (h : H a = none) : a ≠ b := (bag_new (o := .lst []) g h).1
end W20

set_option Elab.async false
set_option linter.all false
set_option maxRecDepth 100000
set_option maxHeartbeats 4000000
/-! LayX: [.. for v in l if ..]; a def with own errors where none comes -/
namespace Lay
open PySem PySem.Spec PyProof.Rows L2
theorem lc_list {K : PySem.W.Frag} {tl : TE} {tt : TT} {te : TE} {v : Nat} {σ : L2.St} {H H1 : Hp} {Q : VK} {l : Addr} {xs : List V} (h : ∀ R : VK, R (.ref l) H1 → tl σ H R) (hl : SqL K H1 l xs)
    (hw : ∀ x, wipe ((wipe σ [v]).set v (some x)) [v] = wipe σ [v])
    (k : ∀ D, H1 D = none → ∃ Pv : Nat → Hp → Prop, Pv 0 (upd H1 D (.lst [])) ∧ (∀ i H', i ≤ xs.length → Pv i H' → SqL K H' l xs) ∧
      (∀ i x H', xs[i]? = some x → Pv i H' → tt ((wipe σ [v]).set v (some x)) H' fun b H3 => if b = true then te ((wipe σ [v]).set v (some x)) H3 fun y H4 => ∃ acc, H4 D = some (.lst acc) ∧ acc.length < sizeLine ∧ Pv (i + 1) (upd H4 D (.lst (acc ++ [y]))) else Pv (i + 1) H3) ∧
      ∀ H', Pv xs.length H' → Q (.ref D) H') :
    tLc (iList K tl) (gName v) tt te [v] σ H Q := by
  refine h _ ⟨l, rfl, ⟨xs, hl⟩, fun D hD => ?_⟩
  obtain ⟨Pv, h0, hG, hs, hd⟩ := k D hD
  refine lc_it walk_list Pv h0 (fun i H' hi hP => hG i H' hi hP) ?_ hd
  rintro i x H' H2 hi hP ⟨rfl, e⟩
  exact ⟨hw _, hs i x _ e hP⟩
theorem pe_cN0 {X : Cx} {k j : Nat} {x : Str} {sp : Sp} {p pos : Pos} {e : Expr} {es : List Expr} {t : TA} (c : CalN X.prog X.w X.K X.mg X.base k x sp) (hr : Room j X.A) (hk : k ≤ j) (hg : Gl X x) (ha : PA X (e :: es) t)
    (hdb : (x == ("__debug__" : Str)) = false := by decide) (he : starEach (e :: es) X.env = (false, eval e X.env) :: starEach es X.env := by rfl) (hpl : (backTo pos (starEach es X.env)).any (·.1) = false := by rfl) :
    PE X (.Call (.Name x p) (e :: es) [] pos) (tCallS sp (fun _ => C8.E0) t) := by
  obtain ⟨f, fd, ps, F, hm, kp, b⟩ := c.ex
  exact pe_callS F (hr.mono hk) hg hm kp b (fun σ pins H s e s' I c => by
    obtain ⟨_, _, _, _, _, _, _, _, _, _, _, _, z⟩ := c
    exact z.elim) ha hdb he hpl
end Lay

set_option Elab.async false
set_option linter.all false
set_option maxRecDepth 100000
set_option maxHeartbeats 4000000
/-! LayY: enumerate(tuple) -/
namespace Lay
open PySem PySem.Spec PyProof.Rows L2
set_option maxHeartbeats 8000000 in
theorem meets_enum1 {v : Value} {o : Obj} {H : Heap → Prop} (B : Begins v o H) :
    Meets (Builtin.«enumerate.__new__» ⟨[.type "enumerate", v], []⟩) (fun _ R s => H s.heap ∧
      R (.ok (.ret (.ref (s.heap.push o).objs.size))) { s with heap := (s.heap.push o).push { cls := .type "enumerate", data := .fields #[.none, .bool false, .ref s.heap.objs.size, rawInt 0, .none, .none] } }) :=
  .of_wp fun prog w A R s h => by
    obtain ⟨hp, g, d, tk, os⟩ := s; obtain ⟨h1, h⟩ := h
    have hsub := sub_enumerate
    have q1 : ∀ {A' : Around} {E : Value → Shared → Prop} {Q : Value → Shared → Prop}, Q (.ref hp.objs.size) ⟨hp.push o, g, d, tk, os⟩ → wpAny (model prog w) A' (pyIter v) Q E ⟨hp, g, d, tk, os⟩ :=
      fun q => B.iter prog w _ _ ⟨hp, g, d, tk, os⟩ _ h1 q
    wp_walk using q1
    refine wpAny_stack_any fun st => wpAny_pure ?_
    split
    · rename_i c _ _ _ _ _
      cases (c == Value.type "enumerate")
      · wp_walk using q1
        exact ⟨_, rfl, h⟩
      · wp_walk using q1
        exact ⟨_, rfl, h⟩
    · wp_walk using q1
      exact ⟨_, rfl, h⟩
theorem enum_begins1 {prog : Program} {w : World} {A : Around} {E : Value → Shared → Prop} {s : Shared} {v : Value} {o : Obj} {H : Heap → Prop} {Q : Value → Shared → Prop} (B : Begins v o H) (h1 : H s.heap)
    (h : ∀ h', IsEnum h' (s.heap.objs.size + 1) s.heap.objs.size 0 .none → h'.get? s.heap.objs.size = some o → h'.objs.size = s.heap.objs.size + 2 →
      (∀ b o, s.heap.get? b = some o → h'.get? b = some o) → Q (.ref (s.heap.objs.size + 1)) { s with heap := h' }) :
    wpAny (model prog w) A (call (.type "enumerate") [v]) Q E s := by
  refine callType_new F.called_enumerate (by decide) (F.typeCall_enumerate_1 _) (F.newCall_enumerate_1 _) (fun obj => F.args_object_init_2 obj _) F.entry_enumerate_new
    (meets_enum1 B) ⟨h1, ?_⟩
  have hz : (s.heap.push o).objs.size = s.heap.objs.size + 1 := Heap.size_push ..
  show _ ∧ _
  rw [hz]
  have he : IsEnum ((s.heap.push o).push { cls := .type "enumerate", data := .fields #[.none, .bool false, .ref s.heap.objs.size, rawInt 0, .none, .none] }) (s.heap.objs.size + 1) s.heap.objs.size 0 .none := by
    have := Heap.get?_push_size (s.heap.push o) (o := { cls := .type "enumerate", data := .fields #[.none, .bool false, .ref s.heap.objs.size, rawInt 0, .none, .none] }) rfl
    rw [hz] at this; exact this
  refine ⟨⟨_, he, rfl⟩, h _ he (Heap.get?_push_of_some _ (Heap.get?_push_size _ B.free)) (by rw [Heap.size_push, hz]) fun b o x => Heap.get?_push_of_some _ (Heap.get?_push_of_some _ x)⟩
theorem pyNext_enum_endT {prog : Program} {w : World} {A : Around} {E : Value → Shared → Prop} {s : Shared} {e it a : Addr} {k : Nat} {i : Int} {items : Array Value} {old : Value} {Q : Option Value → Shared → Prop}
    (hh : A.in1.handled = none) (he : IsEnum s.heap e it i old) (hit : s.heap.IsTupleIter it a k) (ht : s.heap.IsTuple a items) (hx : items[k]? = none)
    (hQ : ∀ h', Heap.ExtBut it s.heap h' → Q none { s with heap := h' }) : wpAny (model prog w) A (pyNext (.ref e)) Q E s := by
  have hT : s.TypeIs (.ref e) "enumerate" := ⟨_, he, rfl⟩
  unfold pyNext
  refine wpAny_bind (wpAny_attempt (wpAny_callSpecial?_slot (name := Str.ofString "__next__") hT F.slot_enumerate_next
    (wpAny_call_entry F.slot_enumerate_next hT F.entry_enumerate_next ?_ (F.args_enumerate_next_1 _))))
  show wpAny _ _ (field (.ref e) 2 >>= _) _ _ _
  refine wpAny_bind (wpAny_field he rfl (x := .ref it) rfl ?_)
  refine wpAny_bind (wpAny_nextOf_tuple_end hh hit ht hx fun h' x he' hx' => ?_)
  obtain ⟨o, ho, hc⟩ := hx'
  refine wpAny_bind (wpAny_isInstance (T := "StopIteration") (b := true) ⟨o, ho, hc⟩ isSubtype_stop ?_)
  exact wpAny_pure (hQ _ he')
/-- the tuple at a, each item in a new pair -/
def IteT (K : PySem.W.Frag) (a : Addr) : It :=
  ⟨fun i H => ∃ (xs : List V) (x : V), SqT K H a xs ∧ xs[i]? = some x, fun i H v H' => ∃ T x, v = .ref T ∧ H T = none ∧ H' = upd H T (.tup [.int (i : Nat), x]) ∧ ∀ xs, SqT K H a xs → xs[i]? = some x, fun i H => ∃ xs : List V, SqT K H a xs ∧ xs.length ≤ i⟩
theorem turn_enumT {P : Program} {w : World} {K : PySem.W.Frag} {elts : List Expr} {kk : Nat} {tpos : Pos} (a e it : Addr) :
    Turn P w K (.Tuple elts kk tpos) (IteT K a) [e, it] e (fun i h => (∃ old, IsEnum h e it ((i : Nat) : Int) old) ∧ h.IsTupleIter it a i ∧ e ≠ it ∧ a ≠ e ∧ a ≠ it) where
  mem := by simp
  obj := fun i h st b hb => by
    obtain ⟨⟨old, he⟩, ⟨o, ho, hc, hd⟩, _⟩ := st
    have e' : b = e ∨ b = it := by simpa using hb
    rcases e' with z | z
    · rw [z]; exact ⟨_, he, fun v q => nomatch q⟩
    · rw [z]; exact ⟨o, ho, fun v q => by rw [hd] at q; cases q⟩
  keep := fun i h h' st k => let ⟨⟨old, he⟩, hi, hne⟩ := st; ⟨⟨old, k e (by simp) _ he⟩, hi.at fun o q => k it (by simp) o q, hne⟩
  item := by
    intro X hP hw hK hc i pins s σ H E I hf st hg
    subst hP hw hK
    obtain ⟨⟨old, he⟩, hit, hne, hae, hai⟩ := st
    obtain ⟨xs, x, hq, hx⟩ := hg
    obtain ⟨its, rv, p, hz⟩ := I.tuple hq
    obtain ⟨u, hu, ru⟩ := rv.get hx
    have hel : e < s.heap.objs.size := Heap.lt_size he
    have hil : it < s.heap.objs.size := by obtain ⟨_, q, _⟩ := hit; exact Heap.lt_size q
    have hlt : i < its.toArray.size := by
      rw [List.size_toArray]
      exact (List.getElem?_eq_some_iff.mp hu).1
    refine wpAny_pyNext_enum_itemD (Draws.tuple (A := X.A.in1) (I.ok.hd hc) it a hai its.toArray) he ⟨hit, p⟩ hlt hne (by simp [hne, Ne.symm hae]) fun u' h' tk hP ho st' hT hsz hk => ?_
    have eu : u' = u := by
      have hP' : its.toArray[i]? = some u' := hP
      rw [List.getElem?_toArray, hu] at hP'
      exact (Option.some.inj hP').symm
    subst eu
    refine ⟨_, rfl, wpAny_letOwnedTupleGo_enum (s := { s with heap := h', toks := tk + 1 }) ho fun h'' he' sb => ?_⟩
    have hT2 : h''.get? s.heap.objs.size = some { cls := .type "tuple", data := .seq #[.int i tk, u'] } := (sb.2 _ (Nat.ne_of_gt hel)).trans hT
    have new : ObjOk X.prog X.w (upd H s.heap.objs.size (.tup [.int (i : Nat), x])) h'' s.heap.objs.size (.tup [.int (i : Nat), x]) :=
      ⟨by show 2 ≤ sizeLine; decide, [.int i tk, u'], .cons ⟨_, rfl⟩ (.cons ru .nil), ⟨_, hT2, rfl, _, rfl⟩⟩
    have I1 : Inv X pins σ (upd H s.heap.objs.size (.tup [.int (i : Nat), x])) { s with heap := h'', toks := tk + 1 } :=
      I.turnedNew (ch := [e, it]) (fun b ob hb q => (sb.2 b (fun z => hb (by simp [z]))).trans (hk b ob (fun z => hb (by simp [z])) (fun z => hb (by simp [z])) q)) hf (Nat.le_refl _) new
    refine ⟨.ref s.heap.objs.size, _, I1, rfl, ⟨_, x, rfl, I.hok.fresh (Nat.le_refl _), rfl, fun ys hy => by rw [I.tuple_inj hy hq]; exact hx⟩, ⟨⟨u', ?_⟩, st'.1.at fun o q => (sb.2 it (Ne.symm hne)).trans q, hne, hae, hai⟩, fun b hb => ?_⟩
    · have e1 : ((i + 1 : Nat) : Int) = (i : Int) + 1 := by omega
      rw [e1]; exact he'
    · have hb' : b < s.heap.objs.size := by
        have e' : b = e ∨ b = it := by simpa using hb
        rcases e' with z | z
        · rw [z]; exact hel
        · rw [z]; exact hil
      rw [upd_ne (Nat.ne_of_lt hb')]
      exact (hf b hb).1
  done := by
    intro X hP hw hK hc i pins s σ H E I hf st hg
    subst hP hw hK
    obtain ⟨⟨old, he⟩, hit, hne, hae, hai⟩ := st
    obtain ⟨xs, hq, hx⟩ := hg
    obtain ⟨its, rv, p, hz⟩ := I.tuple hq
    obtain ⟨f0, f1, f2, f3, f4, f5⟩ := hf it (by simp)
    have hl := rv.length
    exact pyNext_enum_endT (I.ok.hd hc) he hit p (by simp; omega) fun h' eb => ⟨rfl, I.turned (t' := s.toks) (fun b o hb q => eb b o hb q) f0 f1 f3 f4 f5⟩
  self := fun A i s Q E st h => let ⟨⟨_, he⟩, _⟩ := st; wpAny_pyIter_enum he h
def iEnumT (K : PySem.W.Frag) (ta : TA) : TI := fun σ H R => ta σ H fun vs H1 => ∃ a xs, vs = [.ref a] ∧ SqT K H1 a xs ∧ R (IteT K a) H1
theorem pi_enumT {X : Cx} {e : Expr} {ta : TA} {p pos tpos : Pos} {elts : List Expr} {kk : Nat} (hg : Gl X "enumerate") (hm : X.mg "enumerate" = none) (ha : PA X [e] ta) (hs : starEach [e] X.env = [(false, eval e X.env)] := by rfl) :
    PI X (.Tuple elts kk tpos) (.Call (.Name "enumerate" p) [e] [] pos) (iEnumT X.K ta) := by
  refine ⟨fun pins s σ H R I h => ?_⟩
  refine Call_ (ld_blt I hg hm boot_enumerate (PyProof.Rows.callWith_type1 (thn (ha.run pos pins s σ H _ I h) fun us s1 ⟨vs, H1, I1, r1, q1⟩ => ?_) hs rfl))
  obtain ⟨a, xs, ex, hq, q⟩ := q1
  subst ex
  cases r1 with
  | cons r rr =>
    cases rr
    cases r
    obtain ⟨its, rv, p', hz⟩ := I1.tuple hq
    have la : a < s1.heap.objs.size := p'.lt
    refine enum_begins1 (begins_tuple a its.toArray) p' fun h' he hit hsz hk => wpAny_pyIter_enum he ?_
    have I2 : Inv X pins σ H1 { s1 with heap := h' } := I1.kept (t' := s1.toks) hk
    refine ⟨s1.heap.objs.size + 1, [s1.heap.objs.size + 1, s1.heap.objs.size], _, _, H1, rfl, I2, turn_enumT a (s1.heap.objs.size + 1) s1.heap.objs.size, ⟨⟨.none, he⟩, ⟨_, hit, rfl, rfl⟩, Nat.succ_ne_self _, Nat.ne_of_lt (Nat.lt_succ_of_lt la), Nat.ne_of_lt la⟩, fun b hb => ?_, q⟩
    have e' : b = s1.heap.objs.size + 1 ∨ b = s1.heap.objs.size := by simpa using hb
    have hle : s1.heap.objs.size ≤ b := by
      rcases e' with z | z
      · rw [z]; exact Nat.le_add_right _ _
      · rw [z]; exact Nat.le_refl _
    exact I1.fpOk hle (I1.hok.fresh hle)
end Lay

set_option Elab.async false
set_option linter.all false
set_option maxRecDepth 100000
set_option maxHeartbeats 4000000
/-! LayZ: sorted(tuple of texts) -/
namespace Lay
open PySem PySem.Spec PyProof.Rows L2
section
variable {prog : Program} {w : World} {A : Around} {E : Value → Shared → Prop} {s : Shared}
theorem collect_tup {l : Addr} {vs : List Value} {Q : List Value → Shared → Prop} (hl : s.heap.IsTuple l vs.toArray)
    (h : Q vs { s with heap := (s.heap.push (seqObj "list" #[] 0)).update s.heap.objs.size (Obj.mapSeq (· ++ vs.toArray)) }) (hsz : vs.length ≤ sizeLine) : wpAny (model prog w) A (collect (.ref l)) Q E s := by
  obtain ⟨o, ho, hc, n, hd⟩ := id hl
  have hp : (s.heap.push (seqObj "list" #[] 0)).get? l = some o := Heap.get?_push_of_some _ ho
  unfold collect
  refine wpAny_bind (wpAny_runValue (codeAny_builtin entry_proto_collect' ?_))
  show wpAny _ _ (do again (.builtin "list.__iadd__" ⟨[← newList [], .ref l], []⟩)) _ _ s
  refine wpAny_bind (wpAny_newList (wpAny_pure ⟨Code.quiet_builtin _ (by decide +kernel), codeAny_builtin entry_list_iadd' ?_⟩))
  show wpAny _ _ (Builtin.List.listExtendWith (.ref s.heap.objs.size) (.ref l) (.ref s.heap.objs.size)) _ _ { s with heap := s.heap.push (seqObj "list" #[] 0) }
  unfold Builtin.List.listExtendWith
  refine wpAny_bind (wpAny_typeOf (T := "tuple") ⟨o, hp, hc⟩ ?_)
  have tt : (Value.type "tuple" == Value.type "tuple") = true := by rfl
  rw [if_pos (by rw [tt, Bool.or_true])]
  refine wpAny_bind (listItems_at hp hd ?_)
  refine wpAny_bind (listItems_at (xs := #[]) (n := 0) (Heap.get?_push_size _ rfl) rfl ?_)
  rw [if_neg (by simp)]
  refine wpAny_bind (listUpdate_at (xs := #[]) (n := 0) (Heap.get?_push_size _ rfl) rfl ?_ (Nat.zero_le _) (by show (#[] ++ vs.toArray).size ≤ sizeLine + 1; simp only [Array.size_append, List.size_toArray, List.length_nil]; omega))
  refine wpAny_pure ?_
  show wpAny (model prog w) A (do
      let o ← load s.heap.objs.size
      match o.data with
      | .seq ys _ => pure ys.toList
      | _ => unsupported "internal:collect") Q E { s with heap := (s.heap.push (seqObj "list" #[] 0)).update s.heap.objs.size (Obj.mapSeq (· ++ vs.toArray)) }
  refine wpAny_bind (wpAny_load (get?_update_seq (Heap.get?_push_size _ rfl) _) ?_)
  show wpAny _ _ (pure ((#[] : Array Value) ++ vs.toArray).toList) Q E _
  have e : ((#[] : Array Value) ++ vs.toArray).toList = vs := by simp
  rw [e]
  exact wpAny_pure h
theorem sortedKT {κ : KeyKind} (hO : κ.OneLt) {l : Addr} {vs : List Value} {Q : Value → Shared → Prop} (hl : s.heap.IsTuple l vs.toArray) (h0 : KeysOf κ (pairsOf vs)) (hkk : ∀ v₁ v₂ rest, vs = v₁ :: v₂ :: rest → keyKind' (v₁ :: v₂ :: rest).toArray = pure oneType') (h64 : vs.length < 64)
    (h : ∀ st' : SortSt, (arrOf st').Perm (pairsOf vs) → SortedToK κ (arrOf st') (pairsOf vs).size → Q (.ref (s.heap.objs.size + 1)) { s with heap := sortedAll s.heap vs ((arrOf st').map (·.2)) }) :
    wpAny (model prog w) A (call (.builtin "sorted") [.ref l]) Q E s := by
  have hz : vs.length ≤ sizeLine := by rw [sizeLine_eq]; omega
  refine Calls.call_function_entry kind_sorted plain_sorted entry_sorted (args_sorted1 _) ?_
  unfold Builtin.«sorted»
  refine wpAny_bind (m := checkCount "sorted" 1 1 _) (wpAny_pure ?_)
  refine wpAny_bind (collect_tup hl ?_ hz)
  refine wpAny_bind (wpAny_newList ?_)
  have hs : ((s.heap.push (seqObj "list" #[] 0)).update s.heap.objs.size (Obj.mapSeq (· ++ vs.toArray))).objs.size = s.heap.objs.size + 1 := by
    rw [Heap.size_update, size_push']
  have hL : (((s.heap.push (seqObj "list" #[] 0)).update s.heap.objs.size (Obj.mapSeq (· ++ vs.toArray))).push (seqObj "list" vs.toArray 0)).get? (s.heap.objs.size + 1) = some (seqObj "list" vs.toArray 0) := by
    rw [← hs]; exact Heap.get?_push_size _ rfl
  show wpAny _ _ _ _ _ { s with heap := ((s.heap.push (seqObj "list" #[] 0)).update s.heap.objs.size (Obj.mapSeq (· ++ vs.toArray))).push (seqObj "list" vs.toArray 0) }
  rw [hs]
  refine wpAny_bind (wpAny_holding (wpAny_call_entry slot_list_sort ⟨_, hL, rfl⟩ entry_list_sort (list_sort_treeK hO hL h0 hkk h64 fun st' a1 a2 => ⟨_, rfl, ?_⟩) (args_list_sort _)))
  exact wpAny_pure ⟨_, rfl, h st' a1 a2⟩
theorem sorted_strsT {l : Addr} {vs : List Value} {ss : List Str} {Q : Value → Shared → Prop} (hl : s.heap.IsTuple l vs.toArray) (hS : StrsAre vs ss) (h64 : vs.length < 64)
    (h : ∀ (out : Array Value) (ss' : List Str), StrsAre out.toList ss' → ss'.Perm ss → sortedS ss' = true → Q (.ref (s.heap.objs.size + 1)) { s with heap := sortedAll s.heap vs out }) :
    wpAny (model prog w) A (call (.builtin "sorted") [.ref l]) Q E s := by
  refine sortedKT strKind_oneLt hl hS.keysOf (fun v₁ v₂ rest e => keyKind_strs (by rw [← e]; exact hS)) h64 fun st' hp hs => ?_
  obtain ⟨ss', h1, h2, h3⟩ := sorted_out_str hS hp hs
  exact h _ ss' h1 h2 h3
end
def rSortedT (K : PySem.W.Frag) : List V → Hp → VK → Prop := fun vs H Q => ∃ (a : Addr) (xs : List Str), vs = [V.ref a] ∧ SqT K H a (xs.map V.str) ∧ xs.length < 64 ∧
  ∀ (ys : List Str) (p : Addr), ys.Perm xs → sortedS ys = true → H p = none → Q (.ref p) (upd H p (.lst (ys.map V.str)))
theorem call_sortedT {X : Cx} : CallR X (.builtin "sorted") (rSortedT X.K) := by
  intro pins s σ H vs us Q I r h
  obtain ⟨a, xs, rfl, hs, h64, q⟩ := h
  obtain ⟨its, rv, hl, _⟩ := I.tuple hs
  rw [Vals.ref1 r]
  have hlen0 := rv.length
  rw [List.length_map] at hlen0
  refine sorted_strsT hl rv.strs (by rw [← hlen0]; exact h64) fun out ys h1 h2 h3 => ?_
  obtain ⟨ep, he'⟩ := PyProof.Rows.sortedAll_at s.heap its out
  have hlen : (ys.map V.str).length ≤ sizeLine := by rw [List.length_map, h2.length_eq]; exact small64 h64
  exact ⟨.ref _, upd H (s.heap.objs.size + 1) (.lst (ys.map V.str)), I.laid (t' := s.toks) (fun _ _ => PyProof.Rows.sortedAll_old) (Nat.le_succ _) ⟨hlen, out.toList, ep, vals_of_strs h1, he'⟩, rfl, q ys _ h2 h3 (I.hok.fresh (Nat.le_succ _))⟩
end Lay

set_option Elab.async false
set_option linter.all false
set_option maxRecDepth 100000
set_option maxHeartbeats 4000000
/-! LayZa: a method with own errors where none comes; name = {.. for ..} on one line -/
namespace Lay
open PySem PySem.Spec PyProof.Rows L2
/-- o.m(..) of a method with own errors, where none comes -/
theorem pe_mtN0 {X : Cx} {k j : Nat} {C : Addr} {m : Str} {sp : Sp} {o e : Expr} {es : List Expr} {ta : TE} {t : TA} {apos pos : Pos} {pl : Sem Bool} (c : MetN X.prog X.w X.K X.mg X.base k C m sp) (hr : Room j X.A) (hk : k ≤ j) (he : PE X o ta) (ha : PA X (e :: es) t)
    (hst : starEach (e :: es) X.env = (false, eval e X.env) :: starEach es X.env := by rfl) (hpl : (backTo pos (starEach es X.env)).any (·.1) = false := by rfl)
    (ht : eval (.Call (.Attribute o m apos) (e :: es) [] pos) X.env = (do
      let ov ← eval o X.env
      standAt apos.atName
      let (g, first) ← holding [ov] (getMethod ov m pl)
      callWith pos g first (backTo pos (starEach (e :: es) X.env)) (backToKw pos (keywordEach [] X.env))) := by rfl) :
    PE X (.Call (.Attribute o m apos) (e :: es) [] pos) (tMethN C m sp (fun _ => C8.E0) ta t) := by
  obtain ⟨f, fd, ps, hc, hm, F, b⟩ := c.ex
  refine ⟨fun pins s σ H Q I h => ?_⟩
  refine PySem.W.methodCall_KW (pl := pl) (thn (he.run pins s σ H _ I h) fun u s1 ⟨x, H1, I1, rx, a, dx, fs, ex, ea, l, q⟩ => ?_) ht
  subst ex
  obtain rfl : u = Value.ref a := rx
  refine getmeth_ok I1 ea hc hm l ?_
  refine PySem.W.callWith_K (first := [.ref a]) (h₀ := X.base) I.ok.mod.kin hm.kp (thn (ha.run pos pins s1 σ H1 _ I1 q) fun us s2 ⟨vs, H2, I2, r, q2⟩ => ⟨I2.kIn, ?_⟩) hst hpl
  exact run_fnS (E := fun _ => C8.E0) (us := .ref a :: us) (vs := .ref a :: vs) F (hr.mono hk) b (fun pins H s e s' I c => by
    obtain ⟨_, _, _, _, _, _, _, _, _, _, _, _, z⟩ := c
    exact z.elim) I2 (.cons rfl r) q2
theorem ps_setDc {X : Cx} {i : Nat} {y : Str} {py : Pos} {kx vx tg iter : Expr} {ifs : List Expr} {scope : Scope} {own : List (Str × Nat)} {pos spos : Pos} {wi : TI} {g : TG} {tt : TT} {tk tv : TE} (hc : X.calm = true) (hN : X.N.Nodup) (hy : X.N[i]? = some y) (hyl : X.env.scope.names.lookup y = some .local)
    (hsw : swapsWith (.DictComp kx vx [⟨tg, iter, ifs, 0⟩] scope pos) (some (.Name y py)) spos.line X.env = pure true) (hi : PI X tg iter wi) (ok : BlkOk X.N X.env.scope scope own)
    (hg : ∀ (s : Shared) (H : Hp) (C : Addr) (cl : List (Str × Addr)) (fp : List Addr), PG (X.blk s H scope (compEnvC scope cl C X.env) fp) tg g) (ht : ∀ (s : Shared) (H : Hp) (C : Addr) (cl : List (Str × Addr)) (fp : List Addr), PTs (X.blk s H scope (compEnvC scope cl C X.env) fp) ifs tt)
    (hk : ∀ (s : Shared) (H : Hp) (C : Addr) (cl : List (Str × Addr)) (fp : List Addr), PE (X.blk s H scope (compEnvC scope cl C X.env) fp) kx tk)
    (he : ∀ (s : Shared) (H : Hp) (C : Addr) (cl : List (Str × Addr)) (fp : List Addr), PE (X.blk s H scope (compEnvC scope cl C X.env) fp) vx tv) (hs : ∀ x, foldedSetIterable iter X.env x = pure x := by intro _; rfl) :
    PS X (.Assign [.Name y py] (.DictComp kx vx [⟨tg, iter, ifs, 0⟩] scope pos) spos) (tAsg (tDc wi g tt tk tv (own.map (·.2))) (gName i)) := by
  refine ⟨fun pins s σ H D I h => ?_⟩
  rw [exec_Assign_Name_used _ _ _ _ hsw]
  refine wpAny_bind (wpAny_standAt (wpAny_bind ?_))
  show wpAny _ X.A (do let _ ← comprehension (.DictComp kx vx [⟨tg, iter, ifs, 0⟩] scope pos) scope X.env (firstIterPos [⟨tg, iter, ifs, 0⟩] pos) newDict false (eval iter X.env) (some (assign (.Name y py) X.env))) _ _ s
  have h : tDc wi g tt tk tv (own.map (·.2)) σ H (fun x H1 => gName i x σ H1 D.nx) := h
  refine wpAny_bind (thn (dc_core (Qf := fun _ s' => SP X pins D .next s') hc hN I hi ok hg ht hk he hs h fun L C s' m H' I' q hn f => ?_) fun _ s' hq => wpAny_pure (wpAny_pure hq))
  show wpAny _ _ (assign (.Name y py) X.env (.ref L)) _ _ _
  refine wpAny_assign_Name (store_ok2 (v := V.ref L) I' hN hy (.inl hyl) rfl (fun s2 I2 ⟨a, sb, ha⟩ => ?_) (.inr hyl))
  obtain ⟨f0, f1, f2, f3, f4, f5⟩ := f
  have haC : C ≠ a := by
    rcases ha with z | z
    · rw [z]; exact f1
    · exact fun e => f4 y a z e.symm
  refine ⟨m, hn.sameBut sb haC, fun h3 sb3 => ?_⟩
  exact ⟨_, H', I2.turned (t' := s2.toks) (fun b o hb e => (sb3.2 b hb).trans e) f0 f1 f3 f4 f5, q⟩
theorem sw_trueD {kx vx : Expr} {gs : List Comprehension} {scope : Scope} {pos py : Pos} {y : Str} {l : Nat} {env : Env} (hk : env.scope.kind = .function) (hy : env.scope.names.lookup y = some .local) (hl : (py.line == pos.line) = true)
    (ha : (scope.names.any fun (n, k) => n == y && (k == .local || k == .cell)) = false) : swapsWith (.DictComp kx vx gs scope pos) (some (.Name y py)) l env = pure true := by
  have ky : env.kindOf y = some .local := hy
  have hb : env.blockKind = .function := by unfold Env.blockKind; rw [hk]; rfl
  unfold swapsWith
  simp only [hb, ky, ha, Expr.pos, hl]
  rfl
end Lay

set_option Elab.async false
set_option linter.all false
set_option maxRecDepth 100000
set_option maxHeartbeats 4000000
/-! LayZb: == by an own __eq__ that answers either way -/
namespace Lay
open PySem PySem.Spec PyProof.Rows L2
def rEqOwn (C : Addr) (sp : Sp) : R2 := fun x y H Q => ∃ a b dx dy fs gs, x = .ref a ∧ y = .ref b ∧ H a = some (.ins C dx fs) ∧ H b = some (.ins C dy gs) ∧ sp [.ref a, .ref b] H (fun v H' => ∃ k, v = .bl k ∧ Q (.bl k) H') C8.E0
theorem op_eqOwn {X : Cx} {n : Nat} {C f : Addr} {fd : FuncData} {ps : List Str} {sp : Sp} (F : FnOk X.prog X.w X.K X.mg X.base C8.CX0 n f fd ps sp)
    (hs : PySem.W.findIn X.K (.ref C) "__eq__" = some (some (.ref f))) (hf : PySem.W.isFn X.K (.ref f) = true) (hb : Binds X.K fd ps []) (hr : Room n X.A) : OpR X (compareOp .Eq) (rEqOwn C sp) := by
  intro pins s σ H x y u v Q I rx ry d
  obtain ⟨a, b, dx, dy, fs, gs, rfl, rfl, ha, hb', hsp⟩ := d
  cases rx
  cases ry
  obtain ⟨mA, J, _⟩ := ins_get I.hok ha
  obtain ⟨mB, J', _⟩ := ins_get I.hok hb'
  obtain ⟨od, J, _⟩ := J.look
  obtain ⟨od', J', _⟩ := J'.look
  obtain ⟨m, hF⟩ := I.fr
  refine PySem.W.cmp_K (op := .Eq) (tb := .ref C) hr.units0 hF I.ok.mod.kin J J'.type (by simp [PySem.W.notFirst]) hs hf ?_
  have hl := F.len _ _ _ _ hsp
  have r2 : Vals [V.ref a, V.ref b] [Value.ref a, Value.ref b] := .cons rfl (.cons rfl .nil)
  refine wpAny_call (codeAny_mono (F.run X.A X.stack s H ⟨[.ref a, .ref b], []⟩ [.ref a, .ref b] [.ref a, .ref b] _ C8.E0 hr I.env0 (by
    have := hb s [.ref a, .ref b] I.kIn (by simpa using hl)
    simpa using this) r2 hsp) fun r s' hq => ?_)
  cases r with
  | error e => exact C8.pass0 (E := C8.E0) pins σ H s e s' I hq
  | ok fl =>
    cases fl with
    | ret w =>
      obtain ⟨z, H', I', rz, k, ez, q⟩ := I.after hq
      subst ez
      cases rz
      exact ⟨.bl k, H', I', rfl, q⟩
    | next => exact False.elim hq
    | brk => exact False.elim hq
    | cont => exact False.elim hq
end Lay

set_option Elab.async false
set_option linter.all false
set_option maxRecDepth 100000
set_option maxHeartbeats 4000000
/-! LayZc: makers that raise own errors; methods with a keyword; == and != by an own __eq__ with any other; repr, len by own methods -/
namespace Lay
open PySem PySem.Spec PyProof.Rows L2
open C8 (Mak)
/-- a maker that raises own errors -/
structure MakN (P : Program) (w : World) (K : PySem.W.Frag) (mg : Str → Option Value) (base : Heap) (k : Nat) (x : Str) (C : Addr) (sp : Sp) : Prop where
  ex : ∃ (f : Addr) (fd : FuncData) (ps : List Str), Mk K C f ∧ FnOk P w K mg base (L2N.CX P w) k f fd ps sp ∧ mg x = some (.ref C) ∧ Binds K fd ps []
section
variable {P : Program} {w : World} {K : PySem.W.Frag} {mg : Str → Option Value} {base : Heap} {x m qual : Str} {params : Arguments} {body : List Stmt} {scope : Scope} {f C : Addr} {fd : FuncData} {N ps : List Str} {k : Nat} {sp : Sp}
theorem makN (M : Mk K C f) (hm : mg x = some (.ref C)) (F : FunD K "__init__" qual params body scope [] [] f fd) (S : FnScope N ps scope)
    (b : ∀ (kV doc pm : Value) (an : Option Addr) (cdv ct : Value) (us : List Value), us.length = ps.length → bindArgs (PySem.W.fnOf "__init__" qual params body scope .none kV doc pm an cdv ct) ⟨us, []⟩ = pure (ps.zip us)) (len : ∀ vs H Q E, sp vs H Q E → vs.length = ps.length)
    (inside : ∀ (cdv : Value) (A : Around) (outer : List Env) (s : Shared) (H : Hp) (vs : List V) (Q : VK) (E : XK), Room k (A.deeper (envOfC qual scope s.heap.objs.size f cdv)) → sp vs H Q E →
      ∃ t, PSs (cxOf (L2N.CX P w) P w K mg base N qual scope f cdv A outer s H E) body t ∧ t { nx := fun _ H' => Q .non H', rt := Q } (L2.start N vs) H) : MakN P w K mg base (k + 1) x C sp :=
  ⟨f, fd, ps, M, F.ok S len inside, hm, F.bindsN b⟩
end
/-- C(..), own errors taken on -/
def tMakeS (C : Addr) (sp : Sp) (E : L2.St → XK) (t : TA) : TE := fun σ H Q => t σ H fun vs H1 => ∀ x dx, H1 x = none → H1 dx = none → dx ≠ x →
  sp (.ref x :: vs) (upd (upd H1 dx (.own x)) x (.ins C dx [])) (fun v H2 => v = .non ∧ Q (.ref x) H2) (E σ)
section
variable {X : Cx} {CX : CXT} {k n : Nat} {f C : Addr} {fd : FuncData} {ps ks : List Str} {sp : Sp} {E : L2.St → XK} {x m : Str} {p pos apos : Pos} {e o : Expr} {es : List Expr} {kws : List Keyword} {ta : TE} {t tk : TA} {g : List Value → List Value → List Value} {gV : List V → List V → List V}
theorem run_makeS {pins : List (Addr × Obj)} {σ : L2.St} {H : Hp} {s : Shared} {Q : VK} {us : List Value} {vs : List V} (M : Mk X.K C f) (F : FnOk X.prog X.w X.K X.mg X.base CX k f fd ps sp) (hr : Room (k + 1) X.A) (hb : Binds X.K fd ps [])
    (hx : PassesAt CX X σ (E σ)) (I : L2.Inv X pins σ H s) (r : Vals vs us)
    (h : ∀ x dx, H x = none → H dx = none → dx ≠ x → sp (.ref x :: vs) (upd (upd H dx (.own x)) x (.ins C dx [])) (fun v H2 => v = .non ∧ Q (.ref x) H2) (E σ)) :
    wpAny (model X.prog X.w) X.A (call (.ref C) us) (EP X pins σ Q) X.xe s := by
  have hq := h (s.heap.objs.size + 1) s.heap.objs.size (I.hok.fresh (Nat.le_succ _)) (I.hok.fresh (Nat.le_refl _)) (Nat.ne_of_lt (Nat.lt_succ_self _))
  have I2 := Inv.made (C := C) I
  have r2 : Vals (V.ref (s.heap.objs.size + 1) :: vs) (Value.ref (s.heap.objs.size + 1) :: us) := .cons rfl r
  have hl : (Value.ref (s.heap.objs.size + 1) :: us).length = ps.length := by
    have e := r2.length
    rw [F.len _ _ _ _ hq] at e
    exact e.symm
  have bb := hb ⟨((s.heap.push _).push _), s.gens, s.drawn, s.toks, s.os⟩ (Value.ref (s.heap.objs.size + 1) :: us) I2.kIn (by rw [List.append_nil]; exact hl)
  rw [List.append_nil] at bb
  refine wpAny_call (make_map (f := f) I.kIn M.makes M.init (beq_iff_eq.mp M.fn) (codeAny_mono (F.run _ X.stack _ _ ⟨Value.ref (s.heap.objs.size + 1) :: us, []⟩ (Value.ref (s.heap.objs.size + 1) :: us) _ _ (E σ) (hr.make C us [])
    (I2.env0.make C us []) bb r2 hq) fun r s' hq' => ?_))
  cases r with
  | error e => exact hx pins _ _ e s' I2 hq'
  | ok fl =>
    cases fl with
    | ret u =>
      obtain ⟨v, H', I3, rv, ev, q3⟩ := I2.after hq'
      subst ev
      exact ⟨rv, ⟨V.ref (s.heap.objs.size + 1), H', I3, rfl, q3⟩⟩
    | next => exact False.elim hq'
    | brk => exact False.elim hq'
    | cont => exact False.elim hq'
theorem pe_makeS (M : Mk X.K C f) (F : FnOk X.prog X.w X.K X.mg X.base CX k f fd ps sp) (hr : Room (k + 1) X.A) (hg : Gl X x) (hm : X.mg x = some (.ref C)) (hb : Binds X.K fd ps []) (hx : ∀ σ, PassesAt CX X σ (E σ))
    (ha : PA X (e :: es) t) (hdb : (x == ("__debug__" : Str)) = false := by decide) (he : starEach (e :: es) X.env = (false, eval e X.env) :: starEach es X.env := by rfl) (hpl : (backTo pos (starEach es X.env)).any (·.1) = false := by rfl) :
    PE X (.Call (.Name x p) (e :: es) [] pos) (tMakeS C sp E t) := by
  refine ⟨fun pins s σ H Q I h => ?_⟩
  refine wpAny_Call_Name_kw (ld_glob I hg hm ?_ hdb)
  refine PySem.W.callWith_K (h₀ := X.base) I.ok.mod.kin M.kp (thn (ha.run pos pins s σ H _ I h) fun us s1 ⟨vs, H1, I1, r, q⟩ => ⟨I1.kIn, ?_⟩) he hpl
  exact run_makeS M F hr hb (hx σ) I1 r q
/-- C(..), its errors let out -/
theorem pe_mkN {j : Nat} {W : WX} (c : MakN X.prog X.w X.K X.mg X.base k x C sp) (hr : Room j X.A) (hk : k + 1 ≤ j) (hg : Gl X x) (tk : L2N.Takes X W) (ha : PA X (e :: es) t)
    (hdb : (x == ("__debug__" : Str)) = false := by decide) (he : starEach (e :: es) X.env = (false, eval e X.env) :: starEach es X.env := by rfl) (hpl : (backTo pos (starEach es X.env)).any (·.1) = false := by rfl) :
    PE X (.Call (.Name x p) (e :: es) [] pos) (tMakeS C sp (WE W) t) := by
  obtain ⟨f, fd, ps, M, F, hm, b⟩ := c.ex
  exact pe_makeS M F (hr.mono hk) hg hm b (fun σ => L2N.passAt tk σ) ha hdb he hpl
/-- C(..), where no error is to be feared -/
theorem pe_mkN0 {j : Nat} (c : MakN X.prog X.w X.K X.mg X.base k x C sp) (hr : Room j X.A) (hk : k + 1 ≤ j) (hg : Gl X x) (ha : PA X (e :: es) t)
    (hdb : (x == ("__debug__" : Str)) = false := by decide) (he : starEach (e :: es) X.env = (false, eval e X.env) :: starEach es X.env := by rfl) (hpl : (backTo pos (starEach es X.env)).any (·.1) = false := by rfl) :
    PE X (.Call (.Name x p) (e :: es) [] pos) (tMakeS C sp (fun _ => C8.E0) t) := by
  obtain ⟨f, fd, ps, M, F, hm, b⟩ := c.ex
  exact pe_makeS M F (hr.mono hk) hg hm b (fun σ pins H s e s' I c => by
    obtain ⟨_, _, _, _, _, _, _, _, _, _, _, _, z⟩ := c
    exact z.elim) ha hdb he hpl
/-- o.m(..), where no error is to be feared -/
theorem pe_mtNo {j : Nat} {pl : Sem Bool} (c : MetN X.prog X.w X.K X.mg X.base k C m sp) (hr : Room j X.A) (hk : k ≤ j) (he : PE X o ta) (ha : PA X (e :: es) t)
    (hst : starEach (e :: es) X.env = (false, eval e X.env) :: starEach es X.env := by rfl) (hpl : (backTo pos (starEach es X.env)).any (·.1) = false := by rfl)
    (ht : eval (.Call (.Attribute o m apos) (e :: es) [] pos) X.env = (do
      let ov ← eval o X.env
      standAt apos.atName
      let (f, first) ← holding [ov] (getMethod ov m pl)
      callWith pos f first (backTo pos (starEach (e :: es) X.env)) (backToKw pos (keywordEach [] X.env))) := by rfl) :
    PE X (.Call (.Attribute o m apos) (e :: es) [] pos) (tMethN C m sp (fun _ => C8.E0) ta t) := by
  obtain ⟨f, fd, ps, hc, hm, F, b⟩ := c.ex
  refine ⟨fun pins s σ H Q I h => ?_⟩
  refine PySem.W.methodCall_KW (pl := pl) (thn (he.run pins s σ H _ I h) fun u s1 ⟨x, H1, I1, rx, a, dx, fs, ex, ea, l, q⟩ => ?_) ht
  subst ex
  obtain rfl : u = Value.ref a := rx
  refine getmeth_ok I1 ea hc hm l ?_
  refine PySem.W.callWith_K (first := [.ref a]) (h₀ := X.base) I.ok.mod.kin hm.kp (thn (ha.run pos pins s1 σ H1 _ I1 q) fun us s2 ⟨vs, H2, I2, r, q2⟩ => ⟨I2.kIn, ?_⟩) hst hpl
  exact run_fnS (us := .ref a :: us) (vs := .ref a :: vs) (E := fun _ => C8.E0) F (hr.mono hk) b (fun pins H s e s' I c => by
    obtain ⟨_, _, _, _, _, _, _, _, _, _, _, _, z⟩ := c
    exact z.elim) I2 (.cons rfl r) q2
/-- o.m(k = v, ..), no error to be feared -/
def tMethK (C : Addr) (m : Str) (n : Nat) (sp : Sp) (gV : List V → List V → List V) (E : XK) (ta : TE) (tk : TA) : TE := fun σ H Q => ta σ H fun x H1 => ∃ a dx fs, x = .ref a ∧ H1 a = some (.ins C dx fs) ∧ fs.lookup m = none ∧
  tk σ H1 fun zs H2 => zs.length = n ∧ sp (gV [x] zs) H2 Q E
theorem pe_mtK {pl : Sem Bool} {E : XK} (he : PE X o ta) (c : Cls X.K C) (hm : Meth X.K C m f) (F : FnOk X.prog X.w X.K X.mg X.base CX k f fd ps sp) (hr : Room k X.A) (hb : KBn X.K fd ps 1 ks g gV) (hx : Passes CX X E) (hkw : PK X kws tk)
    (hall : (backToKw pos (keywordEach kws X.env)).all (·.1.isSome) = true := by rfl) (hks : (backToKw pos (keywordEach kws X.env)).filterMap (·.1) = ks := by rfl)
    (hpl : ((backTo pos (starEach [] X.env)).any (·.1) || (backToKw pos (keywordEach kws X.env)).any (·.1.isNone)) = false := by rfl)
    (ht : eval (.Call (.Attribute o m apos) [] kws pos) X.env = (do
      let ov ← eval o X.env
      standAt apos.atName
      let (f, first) ← holding [ov] (getMethod ov m pl)
      callWith pos f first (backTo pos (starEach [] X.env)) (backToKw pos (keywordEach kws X.env))) := by rfl) :
    PE X (.Call (.Attribute o m apos) [] kws pos) (tMethK C m ks.length sp gV E ta tk) := by
  refine ⟨fun pins s σ H Q I h => ?_⟩
  refine PySem.W.methodCall_KW (pl := pl) (thn (he.run pins s σ H _ I h) fun u s1 ⟨x, H1, I1, rx, a, dx, fs, ex, ea, l, q⟩ => ?_) ht
  subst ex
  obtain rfl : u = Value.ref a := rx
  refine getmeth_ok I1 ea c hm l ?_
  refine PySem.W.callWith_KW0 (first := [.ref a]) (h₀ := X.base) I.ok.mod.kin hm.kp hall ?_ hpl
  refine thn (hkw.run pos pins s1 σ H1 _ I1 q) fun ws s2 ⟨zs, H2, I2, rz, l2, q2⟩ => ⟨I2.kIn, ?_⟩
  rw [hks]
  exact run_fnN (us := [.ref a]) (vs := [.ref a]) F hr hb hx I2 (.cons rfl .nil) rz rfl l2 q2
end
/-! own __eq__, __repr__, __len__ run by the machine -/
section
variable {X : Cx} {pins : List (Addr × Obj)} {σ : L2.St} {H : Hp} {s : Shared} {k : Nat} {f : Addr} {fd : FuncData} {ps : List Str} {sp : Sp} {A : Around}
theorem run_calm {Q : VK} {R : Value → Shared → Prop} {E : Value → Shared → Prop} {us : List Value} {vs : List V} (sb : L2.Sub X k A) (F : FnOk X.prog X.w X.K X.mg X.base C8.CX0 k f fd ps sp) (hb : Binds X.K fd ps []) (I : L2.Inv X pins σ H s) (r : Vals vs us)
    (h : sp vs H Q C8.E0) (q : ∀ v u H' s', L2.Inv X pins σ H' s' → RelV v u → Q v H' → R u s') : wpAny (model X.prog X.w) A (call (.ref f) us) R E s := by
  have e0 : Env0 X.prog X.w X.K X.mg X.base A X.stack s H := by
    have e := I.env0
    exact ⟨by rw [sb.fr]; exact e.frames, e.mod, e.bs, e.bsz, e.funs, e.frf, e.hok, e.bare⟩
  have hl : us.length = ps.length := by rw [← r.length]; exact F.len _ _ _ _ h
  have b := hb s us I.kIn (by rw [List.append_nil]; exact hl)
  rw [List.append_nil] at b
  refine wpAny_call (codeAny_mono (F.run A X.stack s H ⟨us, []⟩ us vs Q C8.E0 sb.room e0 b r h) fun r s' hq => ?_)
  cases r with
  | error e => exact False.elim hq
  | ok fl =>
    cases fl with
    | next => exact False.elim hq
    | brk => exact False.elim hq
    | cont => exact False.elim hq
    | ret u =>
      obtain ⟨v, H', I', rv, hq⟩ := I.after hq
      exact q v u H' s' I' rv hq
def rEqX (K : PySem.W.Frag) (C : Addr) (sp : Sp) : R2 := fun x y H Q => ∃ a dx fs tb, x = .ref a ∧ H a = some (.ins C dx fs) ∧ TyX K H y tb ∧ PySem.W.notFirst K C tb = true ∧ sp [.ref a, y] H (fun v H' => ∃ k, v = .bl k ∧ Q (.bl k) H') C8.E0
def rNeX (K : PySem.W.Frag) (C : Addr) (sp : Sp) : R2 := fun x y H Q => ∃ a dx fs tb, x = .ref a ∧ H a = some (.ins C dx fs) ∧ TyX K H y tb ∧ PySem.W.notFirst K C tb = true ∧ sp [.ref a, y] H (fun v H' => ∃ k, v = .bl k ∧ Q (.bl (!k)) H') C8.E0
theorem op_eqX {C : Addr} (F : FnOk X.prog X.w X.K X.mg X.base C8.CX0 k f fd ps sp) (hs : PySem.W.findIn X.K (.ref C) "__eq__" = some (some (.ref f))) (hf : PySem.W.isFn X.K (.ref f) = true) (hb : Binds X.K fd ps []) (hr : Room k X.A) : OpR X (compareOp .Eq) (rEqX X.K C sp) := by
  intro pins s σ H x y u v Q I rx ry d
  obtain ⟨a, dx, fs, tb, rfl, ha, ty, nf, hsp⟩ := d
  cases rx
  obtain ⟨mA, J, _⟩ := ins_get I.hok ha
  obtain ⟨od, J, _⟩ := J.look
  obtain ⟨Pk, kx, hP, _⟩ := kit_of I ry ty
  obtain ⟨m, hF⟩ := I.fr
  refine PySem.W.cmp_K (op := .Eq) (tb := tb) hr.units0 hF I.ok.mod.kin J (kx.ty _ _ I.kIn hP) nf hs hf ?_
  refine run_calm (us := [.ref a, v]) (vs := [.ref a, y]) ⟨hr, rfl⟩ F hb I (.cons rfl (.cons ry .nil)) hsp fun z u H' s' I' rz ⟨k, ez, q⟩ => ?_
  subst ez
  cases rz
  exact ⟨.bl k, H', I', rfl, q⟩
end
section
open PySem.W
variable {prog : Program} {w : World} {M : Model} {A : Around} {E : Value → Shared → Prop} {s : Shared} {K : Frag} {x C f : Addr} {ox : Obj} {od : Option Obj} {h₀ : Heap} {L : Addr} {m : Str → Option Value}
theorem ifBound_B {name : Str} {id : String} {args : List Value} {Q : Option Value → Shared → Prop} (X : K.In s.heap) (I : InstAt s.heap x ox C od) (hs : findIn K (.ref C) name = some (some (.builtin id))) (hb : ∀ self, bindSpecial (.builtin id) self = pure (.builtin id, [self]))
    (h : wpAny M A (call (.builtin id) (.ref x :: args)) (fun v => Q (some v)) E s) : wpAny M A (callSpecialIfBound? (.ref x) name args) Q E s := by
  simp only [callSpecialIfBound?, bindSpecialIfBound?]
  refine wpAny_holding (wpAny_bind (wpAny_bind (wpAny_bind (I.type.here ((looks_findIn X hs).here ?_)))))
  refine wpAny_bind (wpAny_askSetting (wpAny_ite ?_))
  have fin : wpAny M A (call (.builtin id) ([.ref x] ++ args) >>= fun v => pure (some v)) Q E s := wpAny_bind (wpAny_mono h (fun v s' h' => wpAny_pure h') fun _ _ h' => h')
  split
  · exact wpAny_bind ((Looks.of_pure (hb _)).here (wpAny_pure (by exact fin)))
  · exact wpAny_tryCatch (wpAny_bind ((Looks.of_pure (hb _)).here (wpAny_pure (by exact fin))))
open Builtin in
theorem own_ne {b : Value} {Q : Value → Shared → Prop} (hu : A.in1.units < cLine) (X : K.In s.heap) (I : InstAt s.heap x ox C od) (hm : mroIn K C (.type "object") = some true) (hq : findIn K (.ref C) "__eq__" = some (some (.ref f))) (hf : isFn K (.ref f) = true)
    (h : wpAny (model prog w) A.in1 (call (.ref f) [.ref x, b]) (fun v s' => ∃ k, v = .bool k ∧ Q (.bool (!k)) s') E s) : wpAny (model prog w) A (call (.builtin "object.__ne__") [.ref x, b]) Q E s := by
  refine wpAny_call (codeAny_call_builtin PySem.F.slot_object_ne.plain PySem.F.entry_object_ne (check_slot (i := "object.__ne__") (owner := "object") (n := "__ne__") (by decide +kernel) (by decide +kernel) (I.type.andThen (looks_mroIn X hm)) (PySem.F.args_object_ne_2 _ _) ?_))
  unfold Builtin.«object.__ne__»
  refine wpAny_bind (m := slotArgs "__ne__" 1 _) (wpAny_pure ?_)
  refine wpAny_bind (m := cRoomFor _ _) (wpAny_cRoomFor hu ?_)
  refine wpAny_bind (m := callSpecialIfBound? (.ref x) (Str.ofString "__eq__") _) (ifBound_K X I hq hf (wpAny_mono h (fun r s' hr => ?_) fun _ _ y => y))
  obtain ⟨k, rfl, hq⟩ := hr
  refine wpAny_bind (wpAny_truthy_bool ?_)
  exact wpAny_pure hq
theorem ne_K {b : Value} {tb : Value} {Q : Value → Shared → Prop} (hu : A.units < cLine) (hu1 : A.in1.units < cLine) (X : K.In s.heap) (I : InstAt s.heap x ox C od) (hb : Looks (model prog w) s.heap (typeOf b) tb) (hn : notFirst K C tb = true) (hm : mroIn K C (.type "object") = some true)
    (hs : findIn K (.ref C) "__ne__" = some (some (.builtin "object.__ne__"))) (hq : findIn K (.ref C) "__eq__" = some (some (.ref f))) (hf : isFn K (.ref f) = true)
    (h : wpAny (model prog w) A.in1 (call (.ref f) [.ref x, b]) (fun v s' => ∃ k, v = .bool k ∧ Q (.bool (!k)) s') E s) : wpAny (model prog w) A (richCompare .NotEq (.ref x) b) Q E s := by
  have one : wpAny (model prog w) A (tryCompare (.ref x) (cmpInfo .NotEq).2.1 b) (fun r s' => ∃ v, r = some v ∧ Q v s') E s := by
    unfold tryCompare
    refine wpAny_bind (ifBound_B X I hs PySem.F.slot_object_ne.bind (wpAny_mono (own_ne (Q := fun v s' => (∃ k, v = .bool k) ∧ Q v s') hu1 X I hm hq hf (wpAny_mono h (fun v s' hv => ?_) fun _ _ e => e)) (fun r s' hr => ?_) fun _ _ e => e))
    · obtain ⟨k, e, q⟩ := hv
      exact ⟨k, e, ⟨_, rfl⟩, q⟩
    · obtain ⟨⟨k, rfl⟩, q⟩ := hr
      exact wpAny_pure ⟨_, rfl, q⟩
  unfold richCompare
  simp only [oneThing_ref]
  refine wpAny_holding (wpAny_bind (wpAny_cRoomFor hu ?_))
  refine wpAny_bind (I.type.here (wpAny_bind (hb.here ?_)))
  split
  · rename_i q
    have e : subIn K tb (.ref C) = some false := by
      rcases Bool.or_eq_true_iff.mp hn with e | e
      · rw [beq_iff_eq.mp e] at q; simp at q
      · exact beq_iff_eq.mp e
    refine wpAny_bind ((looks_subIn X e).here ?_)
    simp only [Bool.false_eq_true, if_false]
    refine wpAny_bind (wpAny_mono one (fun r s' z => ?_) fun _ _ e => e)
    obtain ⟨v, rfl, hq⟩ := z
    exact wpAny_pure hq
  · refine wpAny_bind (wpAny_pure ?_)
    simp only [Bool.false_eq_true, if_false]
    refine wpAny_bind (wpAny_mono one (fun r s' z => ?_) fun _ _ e => e)
    obtain ⟨v, rfl, hq⟩ := z
    exact wpAny_pure hq
end
section
variable {X : Cx} {k : Nat} {f : Addr} {fd : FuncData} {ps : List Str} {sp : Sp}
theorem op_neX {C : Addr} (F : FnOk X.prog X.w X.K X.mg X.base C8.CX0 k f fd ps sp) (hs : PySem.W.findIn X.K (.ref C) "__eq__" = some (some (.ref f))) (hf : PySem.W.isFn X.K (.ref f) = true) (hb : Binds X.K fd ps []) (hm : PySem.W.mroIn X.K C (.type "object") = some true)
    (hne : PySem.W.findIn X.K (.ref C) "__ne__" = some (some (.builtin "object.__ne__"))) (hr : Room (k + 1) X.A) : OpR X (compareOp .NotEq) (rNeX X.K C sp) := by
  intro pins s σ H x y u v Q I rx ry d
  obtain ⟨a, dx, fs, tb, rfl, ha, ty, nf, hsp⟩ := d
  cases rx
  obtain ⟨mA, J, _⟩ := ins_get I.hok ha
  obtain ⟨od, J, _⟩ := J.look
  obtain ⟨Pk, kx, hP, _⟩ := kit_of I ry ty
  have sb : L2.Sub X k X.A.in1 := L2.Sub.in1 (⟨hr, rfl⟩ : L2.Sub X (k + 1) X.A)
  refine ne_K (tb := tb) hr.units0 sb.room.units0 I.kIn J (kx.ty _ _ I.kIn hP) nf hm hne hs hf ?_
  refine run_calm (us := [.ref a, v]) (vs := [.ref a, y]) sb F hb I (.cons rfl (.cons ry .nil)) hsp fun z u H' s' I' rz ⟨k, ez, q⟩ => ?_
  subst ez
  cases rz
  exact ⟨k, rfl, .bl (!k), H', I', rfl, q⟩
/-- repr(o) by an own __repr__ -/
def rReprX (C : Addr) (sp : Sp) : List V → Hp → VK → Prop := fun xs H Q => ∃ a dx fs, xs = [.ref a] ∧ H a = some (.ins C dx fs) ∧ sp [.ref a] H (fun v H' => ∃ z, v = .str z ∧ Q (.str z) H') C8.E0
theorem call_reprX {C : Addr} (F : FnOk X.prog X.w X.K X.mg X.base C8.CX0 k f fd ps sp) (hs : PySem.W.findIn X.K (.ref C) "__repr__" = some (some (.ref f))) (hf : PySem.W.isFn X.K (.ref f) = true) (hb : Binds X.K fd ps []) (hr : Room (k + 1) X.A) : CallR X (.builtin "repr") (rReprX C sp) := by
  intro pins s σ H xs us Q I r d
  obtain ⟨a, dx, fs, rfl, ha, hsp⟩ := d
  obtain rfl := Vals.ref1 r
  obtain ⟨mA, J, _⟩ := ins_get I.hok ha
  obtain ⟨od, J, _⟩ := J.look
  obtain ⟨m, hF⟩ := I.fr
  have sb : L2.Sub X k X.A.in1 := L2.Sub.in1 (⟨hr, rfl⟩ : L2.Sub X (k + 1) X.A)
  refine PySem.W.repr_K sb.room.units0 hF I.ok.mod.kin J hs hf ?_
  refine run_calm (us := [.ref a]) (vs := [.ref a]) sb F hb I (.cons rfl .nil) hsp fun z u H' s' I' rz ⟨y, ez, q⟩ => ?_
  subst ez
  obtain ⟨t, rfl⟩ := rz
  exact ⟨.str y, H', I', ⟨t, rfl⟩, q⟩
/-- len(o) by an own __len__ -/
def rLenX (C : Addr) (sp : Sp) : List V → Hp → VK → Prop := fun xs H Q => ∃ (a dx : Addr) (fs : List (Str × V)) (n : Nat), xs = [.ref a] ∧ H a = some (.ins C dx fs) ∧ n ≤ 16777216 ∧ LenP sp a n H ∧ Q (.int (n : Int)) H
theorem call_lenX {C fi fl : Addr} {fdL : FuncData} {psL : List Str} (hc : ItO2 X.K C fi fl) (FL : FnOk X.prog X.w X.K X.mg X.base C8.CX0 k fl fdL psL sp) (bL : Binds X.K fdL psL []) (hr : Room (k + 1) X.A) : CallR X (.builtin "len") (rLenX C sp) := by
  intro pins s σ H xs us Q I r d
  obtain ⟨a, dx, fs, n, rfl, ha, hn, hsp, q⟩ := d
  obtain rfl := Vals.ref1 r
  have sb : L2.Sub X k X.A.in1 := L2.Sub.in1 (⟨hr, rfl⟩ : L2.Sub X (k + 1) X.A)
  exact len_own sb hc FL bL I ha hn hsp fun t s' I' => ⟨.int (n : Int), H, I', ⟨t, rfl⟩, q⟩
end
end Lay

set_option Elab.async false
set_option linter.all false
set_option maxRecDepth 100000
set_option maxHeartbeats 4000000
/-! U20: the own exceptions -/
namespace W20
open PySem PySem.Spec PyProof.Rows L2 Lay
open SX (S S_len S_cat S_tl)
open C8 (Cal Mak Met pe_c pe_gc fnScope_by E0)
abbrev Mt (K : PySem.W.Frag) (m q : Str) (i j : Nat) (f : Addr) (fd : FuncData) : Prop := FunD K m q (defArgs (inClass (top i) j)) (defBody (inClass (top i) j)) (defScope (inClass (top i) j)) [] [] f fd
abbrev cT (K : PySem.W.Frag) : Addr := He.ga K "Tree"
/-- what is known of the class -/
structure Tc (K : PySem.W.Frag) (mg : Str → Option Value) : Prop where
  cls : Cls K (cT K)
  glo : mg "Tree" = some (.ref (cT K))
  fld : ∀ x ∈ fields, NoAttr K (cT K) x
/-- what a class of own errors is, beside the others -/
structure Rel (K : PySem.W.Frag) (mg : Str → Option Value) (C : Addr) (x : Str) (base : String) : Prop where
  xf : XfC K C
  exc : ExcC K C
  gB : mg x = some (.ref C)
  own : ∀ y ∈ excs, ∃ D, mg y = some (.ref D) ∧ PySem.W.exmOne K (.ref C) (.ref D) = some (decide (y = x)) ∧ PySem.W.kitOne K (.ref C) (.ref D) = some (decide (y = x))
  blt : ∀ y ∈ (["ValueError", "LookupError", "RuntimeError"] : List String), mg (Str.ofString y) = none ∧ PySem.W.kitOne K (.ref C) (.type y) = some (decide (y = base))
structure Bad (K : PySem.W.Frag) (mg : Str → Option Value) (CB fI : Addr) (fdI : FuncData) : Prop extends Rel K mg CB "BadTree" "ValueError" where
  oex : OexC K CB
  init : PySem.W.findIn K (.ref CB) "__init__" = some (some (.ref fI))
  initT : PySem.W.typeIn K (.ref fI) = some (.type "function")
  F : Mt K "__init__" "BadTree.__init__" 2 0 fI fdI
  noF : PySem.W.findIn K (.ref CB) "why" = some none
structure TooM (K : PySem.W.Frag) (mg : Str → Option Value) (CM fI : Addr) (fdI : FuncData) : Prop extends Rel K mg CM "TooMany" "ValueError" where
  oex : OexC K CM
  init : PySem.W.findIn K (.ref CM) "__init__" = some (some (.ref fI))
  initT : PySem.W.typeIn K (.ref fI) = some (.type "function")
  F : Mt K "__init__" "TooMany.__init__" 13 0 fI fdI
  noF : PySem.W.findIn K (.ref CM) "what" = some none
  noB : PySem.W.findIn K (.ref CM) "bound" = some none
abbrev leTail : List Value := [.type "LookupError", .type "Exception", .type "BaseException", .type "object"]
structure NoS (K : PySem.W.Frag) (mg : Str → Option Value) (CN fI : Addr) (fdI : FuncData) : Prop extends Rel K mg CN "NoSuch" "LookupError" where
  oex : OexX K CN "LookupError" "LookupError.__new__" "LookupError.__init__" leTail
  init : PySem.W.findIn K (.ref CN) "__init__" = some (some (.ref fI))
  initT : PySem.W.typeIn K (.ref fI) = some (.type "function")
  F : Mt K "__init__" "NoSuch.__init__" 14 0 fI fdI
  noF : PySem.W.findIn K (.ref CN) "name" = some none
section
variable {P : Program} {w : World} {K : PySem.W.Frag} {mg : Str → Option Value} {base : Heap} {f fB fN fM CB CN CM : Addr} {fd fdB fdN fdM : FuncData}
theorem scB : FnScope ["self", "why"] ["self", "why"] (defScope (inClass (top 2) 0)) := fnScope_by (by decide +kernel)
theorem scN : FnScope ["self", "name"] ["self", "name"] (defScope (inClass (top 14) 0)) := fnScope_by (by decide +kernel)
theorem scM : FnScope ["self", "what", "bound"] ["self", "what", "bound"] (defScope (inClass (top 13) 0)) := fnScope_by (by decide +kernel)
def spIn (C : Addr) (fl : Str) : Sp := fun vs H Q _ => ∃ a y, vs = [.ref a, y] ∧ H a = some (exo a C none) ∧ ∀ dx, H dx = none → dx ≠ a → Q .non (upd (upd H dx (exd dx [(fl, y)])) a (exo a C (some dx)))
def spIn2 (C : Addr) : Sp := fun vs H Q _ => ∃ a y z, vs = [.ref a, y, z] ∧ H a = some (exo a C none) ∧ ∀ dx, H dx = none → dx ≠ a → Q .non (upd (upd (upd H dx (exd dx [(("what" : Str), y)])) a (exo a C (some dx))) dx (exd dx [(("bound" : Str), z), (("what" : Str), y)]))
theorem ok_initB (B : Bad K mg CB fB fdB) : FnOk P w K mg base C8.CX0 1 fB fdB ["self", "why"] (spIn CB "why") := by
  refine B.F.ok scB (fun vs H Q E h => ?_) fun cdv A outer s H vs Q E hr h => ?_
  · obtain ⟨a, y, rfl, _⟩ := h
    rfl
  · obtain ⟨a, y, rfl, ha, q⟩ := h
    refine ⟨_, pss_one (ps_ost (pv 0) (pv 1)), ?_⟩
    exact ⟨y, rfl, .ref a, rfl, a, CB, rfl, B.oex, B.noF, .inl ⟨ha, q⟩⟩
theorem ok_initS (N : NoS K mg CN fN fdN) : FnOk P w K mg base C8.CX0 1 fN fdN ["self", "name"] (spIn CN "name") := by
  refine N.F.ok scN (fun vs H Q E h => ?_) fun cdv A outer s H vs Q E hr h => ?_
  · obtain ⟨a, y, rfl, _⟩ := h
    rfl
  · obtain ⟨a, y, rfl, ha, q⟩ := h
    refine ⟨_, pss_one (ps_ostX (B := "LookupError") (newId := "LookupError.__new__") (initId := "LookupError.__init__") (bmB := leTail) (pv 0) (pv 1)), ?_⟩
    exact ⟨y, rfl, .ref a, rfl, a, CN, rfl, N.oex, N.noF, ha, q⟩
theorem ok_initM (B : TooM K mg CM fM fdM) : FnOk P w K mg base C8.CX0 1 fM fdM ["self", "what", "bound"] (spIn2 CM) := by
  refine B.F.ok scM (fun vs H Q E h => ?_) fun cdv A outer s H vs Q E hr h => ?_
  · obtain ⟨a, y, z, rfl, _⟩ := h
    rfl
  · obtain ⟨a, y, z, rfl, ha, q⟩ := h
    refine ⟨_, pss_cons (ps_ost (pv 0) (pv 1)) (pss_one (ps_ost (pv 0) (pv 2))), ?_⟩
    refine ⟨y, rfl, .ref a, rfl, a, CM, rfl, B.oex, B.noF, .inl ⟨ha, fun dx hdx ne => ?_⟩⟩
    refine ⟨z, rfl, .ref a, rfl, a, CM, rfl, B.oex, B.noB, .inr ⟨dx, [(("what" : Str), y)], upd_same, ?_, (show 1 ≤ 900 by decide), q dx hdx ne⟩⟩
    rw [upd_ne ne, upd_same]
/-- an error of the class at C was raised with the fields fs -/
def RaisedX (C : Addr) (fs : List (Str × V)) (H : Hp) (E : XK) : Prop := ∀ H' d, Same H H' → H d = none → H' d = some (.xd fs) → E (.ref C) (some d) H'
abbrev Raised (C : Addr) (fl : Str) (x : V) (H : Hp) (E : XK) : Prop := RaisedX C [(fl, x)] H E
/-- the making of such an error -/
theorem mk_raised {C : Addr} {fl : Str} {x : V} {σ : L2.St} {H : Hp} {E : XK} {ta : TA} (h : ∀ R : List V → Hp → Prop, R [x] H → ta σ H R) (q : Raised C fl x H E) : tMkO C (spIn C fl) [] ta σ H E := by
  refine h _ ⟨(by simp : [x].length ≤ 1000), fun a ha => ⟨a, x, rfl, upd_same, fun dx hdx ne => ⟨rfl, dx, [(fl, x)], upd_same, ?_, ?_, ?_⟩⟩⟩
  · rw [upd_ne ne, upd_same]
  · rw [upd_ne ne] at hdx
    exact hdx
  · rw [upd_ne ne] at hdx
    refine q _ dx (fun b o hb => ?_) hdx upd_same
    have nb : b ≠ dx := ne_of_none hb hdx
    have na : b ≠ a := ne_of_none hb ha
    rw [upd_ne nb, del_ne na, upd_ne na, upd_ne nb, upd_ne na]
    exact hb
theorem mk_raised2 {C : Addr} {x y : V} {σ : L2.St} {H : Hp} {E : XK} {ta : TA} (h : ∀ R : List V → Hp → Prop, R [x, y] H → ta σ H R) (q : RaisedX C [(("bound" : Str), y), (("what" : Str), x)] H E) : tMkO C (spIn2 C) [] ta σ H E := by
  refine h _ ⟨(by simp : [x, y].length ≤ 1000), fun a ha => ⟨a, x, y, rfl, upd_same, fun dx hdx ne => ⟨rfl, dx, [(("bound" : Str), y), (("what" : Str), x)], ?_, upd_same, ?_, ?_⟩⟩⟩
  · rw [upd_ne (Ne.symm ne), upd_same]
  · rw [upd_ne ne] at hdx
    exact hdx
  · rw [upd_ne ne] at hdx
    refine q _ dx (fun b o hb => ?_) hdx upd_same
    have nb : b ≠ dx := ne_of_none hb hdx
    have na : b ≠ a := ne_of_none hb ha
    rw [upd_ne nb, del_ne na, upd_ne nb, upd_ne na, upd_ne nb, upd_ne na]
    exact hb
theorem RaisedX.mono {C : Addr} {fs : List (Str × V)} {H H1 : Hp} {E : XK} (q : RaisedX C fs H E) (s : Same H H1) : RaisedX C fs H1 E := fun H' d s1 n e => q H' d (s.trans s1) (s.free n) e
end
end W20

set_option Elab.async false
set_option linter.all false
set_option maxRecDepth 100000
set_option maxHeartbeats 4000000
/-! O20: Tree.__init__ -/
namespace W20
open PySem PySem.Spec PyProof.Rows L2 Lay
open SX (S S_len S_cat S_tl)
open C8 (Cal Mak Met pe_c pe_gc fnScope_by E0)
section
variable {P : Program} {w : World} {K : PySem.W.Frag} {mg : Str → Option Value} {base : Heap} {f fB fM CB CM : Addr} {fd fdB fdM : FuncData}
theorem scI : FnScope ["self", "text", "words", "names", "halves", "lots", "above", "node", "pair"] ["self", "text"] (defScope (inClass (top 33) 0)) := fnScope_by (by decide +kernel)
def tooM : List (Str × V) := [(("bound" : Str), .int 24), (("what" : Str), .str ("things" : Str))]
def spInit (C CB CM : Addr) : Sp := fun vs H Q E => ∃ (x dx : Addr) (a : List Nat), vs = [.ref x, .str (S a)] ∧ H x = some (.ins C dx []) ∧ a.length ≤ 200000 ∧ (P20.words a).length < 4000 ∧ (∀ u ∈ P20.words a, u.length ≤ 100000) ∧
  ((P20.namesOf nameB (P20.words a) = none ∧ Raised CB "why" (.str ("no tree" : Str)) H E) ∨ ∃ T, P20.words a = P20.toks T ∧ P20.Good nameB T ∧ (P20.leaves T).Nodup ∧
    if (P20.leaves T).length ≤ 24 then (∀ H', (∀ b u, b ≠ x → H b = some u → H' b = some u) → TreeAt C H' x T → Q .non H') else RaisedX CM tooM H E)
theorem ok_init (m : Mg K mg) (tc : Tc K mg) (Mk0 : Mk K (cT K) f) (B : Bad K mg CB fB fdB) (M : TooM K mg CM fM fdM) (c_check_length : Cal P w K mg base 1 "check_length" spLen []) (c_tree_words : Cal P w K mg base 2 "tree_words" spTW []) (c_tree_names : Cal P w K mg base 3 "tree_names" spNames []) (c_tree_halves : Cal P w K mg base 1 "tree_halves" spTH [])
    (F : Mt K "__init__" "Tree.__init__" 33 0 f fd) : MakN P w K mg base 4 "Tree" (cT K) (spInit (cT K) CB CM) := by
  have sc := scI
  have bI : Binds K fdB ["self", "why"] [] := B.F.bindsN fun _ _ _ _ _ _ us hl => match us, hl with | [_, _], _ => rfl
  have bM : Binds K fdM ["self", "what", "bound"] [] := M.F.bindsN fun _ _ _ _ _ _ us hl => match us, hl with | [_, _, _], _ => rfl
  refine makN Mk0 tc.glo F sc (fun _ _ _ _ _ _ us hl => match us, hl with | [_, _], _ => rfl) ?_ fun cdv A outer s H vs Q E hr h => ?_
  · rintro vs H Q E ⟨x, dx, a, rfl, _⟩
    rfl
  · obtain ⟨x, dx, a, rfl, hx, al, fw, ow, alt⟩ := h
    have room1 : (A.deeper (envOfC "Tree.__init__" (defScope (inClass (top 33) 0)) s.heap.objs.size f cdv)).units + 1 < cLine := by have := hr.un; omega
    refine ⟨_, (pss_cons (ps_expr (pe_c c_check_length hr (by decide) (by rfl) (pa_cons (pv 1) pa_nil)))
      (pss_cons (ps_set (i := 2) sc.nd rfl (.inl rfl) (pe_c c_tree_words hr (by decide) (by rfl) (pa_cons (pv 1) pa_nil)))
      (pss_cons (ps_set (i := 3) sc.nd rfl (.inl rfl) (pe_c c_tree_names hr (by decide) (by rfl) (pa_cons (pv 2) pa_nil)))
      (pss_cons (ps_if (pt_cmpR op_isN (pv 3) pe_non (nomark _))
        (pss_one (L2N.ps_raise rfl takesN (pmk_oexN B.oex B.init B.initT (ok_initB B) (hr.mono (by decide)) bI C8.pass0 (by rfl) B.gB (pa_cons pe_str pa_nil))))
        pss_nil)
      (pss_cons (ps_if (pt_cmpR op_gt (pe_callB call_len (by rfl) m.len_ boot_len (pa_cons (pv 3) pa_nil)) (pe_gc (v := .int 24) (by rfl) m.mostLeaves) (nomark _))
        (pss_one (L2N.ps_raise rfl takesN (pmk_oexN M.oex M.init M.initT (ok_initM M) (hr.mono (by decide)) bM C8.pass0 (by rfl) M.gB (pa_cons pe_str (pa_cons (pe_gc (v := .int 24) (by rfl) m.mostLeaves) pa_nil)))))
        pss_nil)
      (pss_cons (ps_set (i := 4) sc.nd rfl (.inl rfl) (pe_c c_tree_halves hr (by decide) (by rfl) (pa_cons (pv 2) pa_nil)))
      (pss_cons (ps_set (i := 5) sc.nd rfl (.inl rfl) pe_dnewK)
      (pss_cons (ps_set (i := 6) sc.nd rfl (.inl rfl) pe_dnewK)
      (PSs.nox (pss_cons (ps_lock (ps_for pown rfl (pi_keys (pv 4)) (pg_name (i := 7) sc.nd rfl (.inl rfl))
 (pss_cons (ps_set (i := 8) sc.nd rfl (.inl rfl) (pe_dget room1 (pv 4) (pv 7) (fun _ _ => rfl)))
        (pss_one (ps_if (pt_cmpR op_isN (pv 8) pe_non (nomark _))
          (pss_one (ps_asg (pe_tup (pa_cons (pv 7) pa_nil)) (pg_sub (pv 5) (pv 7) (set_dict room1))))
          (pss_cons (ps_asg (pe_op op_catA (pe_dget room1 (pv 5) (pe_ix ix_tup (pv 8) pe_int (fun _ _ => rfl)) (fun _ _ => rfl)) (pe_dget room1 (pv 5) (pe_ix ix_tup (pv 8) pe_int (fun _ _ => rfl)) (fun _ _ => rfl))) (pg_sub (pv 5) (pv 7) (set_dict room1)))
          (pss_cons (ps_asg (pv 7) (pg_sub (pv 6) (pe_ix ix_tup (pv 8) pe_int (fun _ _ => rfl)) (set_dict room1)))
          (pss_one (ps_asg (pv 7) (pg_sub (pv 6) (pe_ix ix_tup (pv 8) pe_int (fun _ _ => rfl)) (set_dict room1)))))))))))
      (pss_cons (ps_fld (pv 0) (pe_callTy call_tuple_of (by rfl) m.tuple_ boot_tuple (pa_cons (pv 3) pa_nil)) (by rfl))
      (pss_cons (ps_fld (pv 0) (pe_callTy call_tuple_of (by rfl) m.tuple_ boot_tuple (pa_cons (pe_lock (pe_lc (own := [("node", 7)]) (g := gName 7) (by rfl) sc.nd (pi_keys (pv 4)) (blkOk_by (own := [("node", 7)]) (N := ["self", "text", "words", "names", "halves", "lots", "above", "node", "pair"]) (sc := defScope (inClass (top 33) 0)) (by decide +kernel)) (fun _ _ _ _ _ => pg_name (i := 7) sc.nd rfl (.inl rfl)) (fun _ _ _ _ _ => pts_nil) (fun _ _ _ _ _ => pv 7))) pa_nil)) (by rfl))
      (pss_cons (ps_fld (pv 0) (pe_ix ix_tup (pe_fld (pv 0) rfl) (pe_un un_neg pe_int) (fun _ _ => rfl)) (by rfl))
      (pss_cons (ps_fld (pv 0) (pe_fld (pv 0) rfl) (by rfl))
      (pss_cons (ps_fld (pv 0) (pv 4) (by rfl))
      (pss_cons (ps_fld (pv 0) (pv 5) (by rfl))
      (pss_one (ps_fld (pv 0) (pv 6) (by rfl))))))))))))))))))), ?_⟩
    have szl := sizeLine_eq
    simp only [L2.start, cxOf, tRet, tAndV, tOrV, tNotV, tCB, tCons, tNil, tVar, tC, tOp, tUn, tTest, tB, tSeq, tAsg, tNot, gName, tNext, tCall, tChain, rI, rI0, rEq, rNe, rGcd, rU, tM1, tM0, tSl, tPart, tNoPart, gTup, gCons, gNil, gSub, tTup, tLst, tPar, L2.rI, List.map_cons, List.map_nil, List.length_cons, List.length_nil, List.cons_append, List.nil_append, List.append_nil, List.getElem?_cons_zero, List.getElem?_cons_succ, List.set_cons_zero, List.set_cons_succ, Option.some.injEq, exists_eq_left, exists_eq_left', exists_eq_right, exists_and_left, exists_and_right, List.cons.injEq, and_true, true_and, V.int.injEq, V.str.injEq, V.bl.injEq, V.ref.injEq, List.replicate, Nat.reduceAdd, Nat.reduceSub, reduceCtorEq, false_and, and_false, if_true, if_false, Bool.false_eq_true, Bool.not_true, Bool.not_false, decide_eq_true_eq, exists_false, or_false, false_or, tDrop]
    refine ⟨_, rfl, by omega, _, rfl, by omega, fun H1 ws s1 n1 hw => ?_⟩
    rcases alt with ⟨no, ra⟩ | ⟨T, eT, good, nd, alt⟩
    · refine ⟨ws, _, rfl, hw, fw, fun u hu => Nat.le_trans (ow u hu) (by omega), ?_⟩
      rw [no]
      intro H2 s2
      simp only [L2.start, cxOf, tRet, tAndV, tOrV, tNotV, tCB, tCons, tNil, tVar, tC, tOp, tUn, tTest, tB, tIf, tIfS, tSeq, tAsg, tAnd, tOr, tNot, gName, tNext, tCall, tChain, rI, rI0, rEq, rNe, rGcd, rU, tM1, tM0, tSl, tPart, tNoPart, gTup, gCons, gNil, gSub, tTup, tLst, tPar, L2.rI, List.map_cons, List.map_nil, List.length_cons, List.length_nil, List.cons_append, List.nil_append, List.append_nil, List.getElem?_cons_zero, List.getElem?_cons_succ, List.set_cons_zero, List.set_cons_succ, Option.some.injEq, exists_eq_left, exists_eq_left', exists_eq_right, exists_and_left, exists_and_right, List.cons.injEq, and_true, true_and, V.int.injEq, V.str.injEq, V.bl.injEq, V.ref.injEq, List.replicate, Nat.reduceAdd, Nat.reduceSub, reduceCtorEq, false_and, and_false, if_true, if_false, Bool.false_eq_true, Bool.not_true, Bool.not_false, decide_eq_true_eq, exists_false, or_false, false_or]
      exact mk_raised (fun R k => k) (ra.mono (s1.trans s2))
    rw [eT] at hw fw ow
    have tl := P20.toks_len T
    have lp : 0 < (P20.leaves T).length := List.length_pos_iff.mpr (P20.leaves_pos T)
    have ok := good.ok
    refine ⟨ws, _, rfl, hw, by omega, fun u hu => Nat.le_trans (ow u hu) (by omega), ?_⟩
    rw [P20.names_toks good nd]
    refine fun H2 nm s2 n2 hn => ?_
    simp only [L2.start, cxOf, tRet, tAndV, tOrV, tNotV, tCB, tCons, tNil, tVar, tC, tOp, tUn, tTest, tB, tIf, tIfS, tSeq, tAsg, tAnd, tOr, tNot, gName, tNext, tCall, tChain, rI, rI0, rEq, rNe, rGcd, rU, tM1, tM0, tSl, tPart, tNoPart, gTup, gCons, gNil, gSub, tTup, tLst, tPar, L2.rI, List.map_cons, List.map_nil, List.length_cons, List.length_nil, List.cons_append, List.nil_append, List.append_nil, List.getElem?_cons_zero, List.getElem?_cons_succ, List.set_cons_zero, List.set_cons_succ, Option.some.injEq, exists_eq_left, exists_eq_left', exists_eq_right, exists_and_left, exists_and_right, List.cons.injEq, and_true, true_and, V.int.injEq, V.str.injEq, V.bl.injEq, V.ref.injEq, List.replicate, Nat.reduceAdd, Nat.reduceSub, reduceCtorEq, false_and, and_false, if_true, if_false, Bool.false_eq_true, Bool.not_true, Bool.not_false, decide_eq_true_eq, exists_false, or_false, false_or]
    refine ⟨_, len_L (SqL.of hn), ?_⟩
    by_cases few : (P20.leaves T).length ≤ 24
    case neg =>
      rw [if_neg few] at alt
      rw [List.length_map, if_pos (by omega)]
      exact mk_raised2 (fun R k => k) (alt.mono (s1.trans s2))
    rw [if_pos few] at alt
    have q := alt
    have w8 : ∀ u ∈ P20.leaves T, u.length ≤ 8 := fun u hu => name_len (good u hu).1
    have sl := P20.spell_len w8
    have sl2 : (P20.spell T).length ≤ 300 := by omega
    rw [List.length_map, if_neg (by omega)]
    simp only [L2.start, cxOf, tRet, tAndV, tOrV, tNotV, tCB, tCons, tNil, tVar, tC, tOp, tUn, tTest, tB, tIf, tIfS, tSeq, tAsg, tAnd, tOr, tNot, gName, tNext, tCall, tChain, rI, rI0, rEq, rNe, rGcd, rU, tM1, tM0, tSl, tPart, tNoPart, gTup, gCons, gNil, gSub, tTup, tLst, tPar, L2.rI, List.map_cons, List.map_nil, List.length_cons, List.length_nil, List.cons_append, List.nil_append, List.append_nil, List.getElem?_cons_zero, List.getElem?_cons_succ, List.set_cons_zero, List.set_cons_succ, Option.some.injEq, exists_eq_left, exists_eq_left', exists_eq_right, exists_and_left, exists_and_right, List.cons.injEq, and_true, true_and, V.int.injEq, V.str.injEq, V.bl.injEq, V.ref.injEq, List.replicate, Nat.reduceAdd, Nat.reduceSub, reduceCtorEq, false_and, and_false, if_true, if_false, Bool.false_eq_true, Bool.not_true, Bool.not_false, decide_eq_true_eq, exists_false, or_false, false_or, tDNewK]
    refine ⟨ws, T, rfl, s2 _ _ hw, ok, nd, by omega, by omega, fun H3 d s3 n3 hd lo hlo ab hab => ?_⟩
    obtain ⟨kvs, hk1, hk2, hk3⟩ := id hd
    have nl := P20.nodes_len T
    have lk : kvs.length = (P20.nodes T).length := by
      have := congrArg List.length hk2
      simpa using this
    have kn : kvs.map (·.1) = (P20.nodes T).map keyS := by
      rw [hk2, List.map_map]
      exact List.map_congr_left fun t _ => by show (Sum.inr (S (P20.ent t).1) : Key) = _; rw [P20.ent_key]; rfl
    have knd : (kvs.map (·.1)).Nodup := by rw [kn]; exact keys_nd ok nd
    have nla : lo ≠ ab := fun z => by rw [← z, upd_same] at hab; cases hab
    have hab3 : H3 ab = none := by rw [upd_ne (Ne.symm nla)] at hab; exact hab
    have ndl : d ≠ lo := ne_of_none hk1 hlo
    have nda : d ≠ ab := ne_of_none hk1 hab3
    refine ⟨d, .dK kvs, by rw [upd_ne nda, upd_ne ndl]; exact hk1, trivial, fun od => ?_⟩
    refine for_keys_at (d := d) (o := od) (kvs := kvs) (fun R k => ⟨_, rfl, k⟩) upd_same ⟨fun i σ' H' => ∃ (y7 y8 : Option V), σ' = [some (.ref x), some (.str (S a)), some (.ref ws), some (.ref nm), some (.ref d), some (.ref lo), some (.ref ab), y7, y8] ∧
      (∀ b u, b ≠ d → H3 b = some u → H' b = some u) ∧ H' d = some (.frz od (.dK kvs)) ∧ LotsAt H' lo ((P20.nodes T).take i) ∧ H' ab = some (.dK (aboveK ((P20.nodes T).take i))), ?_, ?_, ?_, ?_⟩
    · refine ⟨none, none, rfl, fun b u nb hb => ?_, upd_same, ⟨[], ?_, rfl, fun i n kv z _ => by simp at z⟩, ?_⟩
      · rw [upd_ne nb, upd_ne (ne_of_none hb hab3), upd_ne (ne_of_none hb hlo)]
        exact hb
      · rw [upd_ne (Ne.symm ndl), upd_ne nla, upd_same]
      · rw [upd_ne (Ne.symm nda), upd_same]
        rfl
    · rintro i σ' H' _ ⟨y7, y8, rfl, _, hf, _⟩
      exact hf
    · rintro i k v σ' H' hkv ⟨y7, y8, rfl, keep, hf, hl, ha⟩
      obtain ⟨hi, _⟩ := List.getElem?_eq_some_iff.mp hkv
      have hi2 : i < (P20.nodes T).length := by omega
      generalize en : (P20.nodes T)[i] = n
      have hn2 : (P20.nodes T)[i]? = some n := by rw [List.getElem?_eq_getElem hi2, en]
      have ek : k = keyS n := by
        have e1 : (kvs.map (·.1))[i]? = some k := by rw [List.getElem?_map, hkv]; rfl
        rw [kn, List.getElem?_map, hn2] at e1
        exact (Option.some.inj e1).symm
      subst ek
      have hv : HalfOf H3 n v := hk3 i _ _ (by rw [List.getElem?_map, hn2]; rfl) hkv
      have vv : valV kvs (keyS n) = some v := val_at knd hkv
      have tk : (P20.nodes T).take (i + 1) = (P20.nodes T).take i ++ [n] := by rw [List.take_succ_eq_append_getElem hi2, en]
      have lt : ((P20.nodes T).take i).length = i := by rw [List.length_take]; omega
      have fr : keyS n ∉ ((P20.nodes T).take i).map keyS := by
        have h := keys_nd ok nd
        rw [← List.take_append_drop (i + 1) (P20.nodes T), tk, List.append_assoc, List.map_append, List.nodup_append] at h
        exact fun z => h.2.2 _ z _ (by simp) rfl
      have ndt : (((P20.nodes T).take i).map keyS).Nodup := by
        have h := keys_nd ok nd
        rw [← List.take_append_drop i (P20.nodes T), List.map_append, List.nodup_append] at h
        exact h.1
      have abs : aboveK ((P20.nodes T).take (i + 1)) = abv (aboveK ((P20.nodes T).take i)) n := by
        rw [tk]
        unfold aboveK
        rw [List.foldl_append]
        rfl
      have abl := aboveK_len ((P20.nodes T).take i)
      simp only [L2.start, cxOf, tRet, tAndV, tOrV, tNotV, tCB, tCons, tNil, tVar, tC, tOp, tUn, tTest, tB, tIf, tIfS, tSeq, tAsg, tAnd, tOr, tNot, gName, tNext, tCall, tChain, rI, rI0, rEq, rNe, rGcd, rU, tM1, tM0, tSl, tPart, tNoPart, gTup, gCons, gNil, gSub, tTup, tLst, tPar, L2.rI, List.map_cons, List.map_nil, List.length_cons, List.length_nil, List.cons_append, List.nil_append, List.append_nil, List.getElem?_cons_zero, List.getElem?_cons_succ, List.set_cons_zero, List.set_cons_succ, Option.some.injEq, exists_eq_left, exists_eq_left', exists_eq_right, exists_and_left, exists_and_right, List.cons.injEq, and_true, true_and, V.int.injEq, V.str.injEq, V.bl.injEq, V.ref.injEq, List.replicate, Nat.reduceAdd, Nat.reduceSub, reduceCtorEq, false_and, and_false, if_true, if_false, Bool.false_eq_true, Bool.not_true, Bool.not_false, decide_eq_true_eq, exists_false, or_false, false_or, tDrop, tDGet, rSetD]
      have ndl : d ≠ lo := ne_of_none hk1 hlo
      refine ⟨v, .inl ⟨kvs, _, .inr ⟨od, hf⟩, rfl, vv.symm⟩, ?_⟩
      cases n with
      | leaf w =>
        obtain rfl : v = .non := hv
        rw [if_pos rfl]
        refine ⟨small (by decide), fun t ht => ?_⟩
        obtain ⟨kl, hkl, lkl, hnew⟩ := (hl.mono (H' := upd H' t (.tup [kV (keyS (.leaf w))])) fun b u hb _ => same_new ht b u hb).put fr (t := t) upd_same
        refine ⟨_, DPut.k (k := keyS (.leaf w)) hkl (by omega), ⟨_, rfl⟩, fun b u nb hb => ?_, ?_, by rw [tk]; exact hnew, ?_⟩
        · rw [upd_ne (ne_of_none hb hlo), upd_ne (ne_of_none (keep b u nb hb) ht)]
          exact keep b u nb hb
        · rw [upd_ne ndl, upd_ne (ne_of_none hf ht)]
          exact hf
        · rw [upd_ne (Ne.symm nla), upd_ne (ne_of_none ha ht), abs]
          exact ha
      | node l r =>
        obtain ⟨t, rfl, ht⟩ := hv
        rw [if_neg (by simp)]
        have ntd : t ≠ d := ne_of ht hk1 fun z => by cases z
        have ht1 : H' t = some (.tup [.str (S (P20.spell l)), .str (S (P20.spell r))]) := keep t _ ntd ht
        obtain ⟨ml, mr⟩ := P20.nodes_before hn2
        obtain ⟨kl, tl, hkl, vl, htl⟩ := hl.get ndt ml
        obtain ⟨kl2, tr, hkl2, vr, htr⟩ := hl.get ndt mr
        obtain rfl : kl = kl2 := by
          rw [hkl] at hkl2
          cases hkl2
          rfl
        have few2 : (P20.leaves l).length + (P20.leaves r).length ≤ 24 := by
          have := P20.sub_len (List.mem_of_getElem? hn2)
          rw [P20.leaves, List.length_append] at this
          omega
        refine ixT ht1 0 rfl ⟨.ref tl, vl ▸ DGet.k (k := keyS l) hkl, ixT ht1 1 rfl ⟨.ref tr, vr ▸ DGet.k (k := keyS r) hkl, tl, tr, _, _, rfl, rfl, sqT_of htl, sqT_of htr, by rw [List.length_map, List.length_map]; omega,
          fun e => absurd (List.map_eq_nil_iff.mp e) (P20.leaves_pos l), fun _ e => absurd (List.map_eq_nil_iff.mp e) (P20.leaves_pos r), fun _ _ p hp => ?_⟩⟩
        have ew : wV (P20.leaves l) ++ wV (P20.leaves r) = wV (P20.leaves (.node l r)) := List.map_append.symm
        rw [ew]
        obtain ⟨kl', hkl', lkl, hnew⟩ := (hl.mono (H' := upd H' p (.tup (wV (P20.leaves (.node l r))))) fun b u hb _ => same_new hp b u hb).put fr (t := p) upd_same
        refine ⟨_, DPut.k (k := keyS (.node l r)) hkl' (by omega), ?_⟩
        generalize eH : upd (upd H' p (.tup (wV (P20.leaves (.node l r))))) lo (.dK (putK kl' (keyS (.node l r)) (.ref p))) = H6 at hnew ⊢
        have k6 : ∀ b u, b ≠ lo → H' b = some u → H6 b = some u := fun b u nb hb => by
          rw [← eH, upd_ne nb, upd_ne (ne_of_none hb hp)]
          exact hb
        have ht6 := k6 t _ (ne_of_none ht hlo) ht1
        have ha6 := k6 ab _ (Ne.symm nla) ha
        have nta : t ≠ ab := ne_of_none ht hab3
        refine ixT ht6 0 rfl ⟨_, DPut.k (k := keyS l) ha6 (by omega), ?_⟩
        have hp1 := (putK_len (kvs := aboveK ((P20.nodes T).take i)) (k := keyS l) (v := kV (keyS (.node l r))))
        refine ixT (by rw [upd_ne nta]; exact ht6) 1 rfl ⟨_, DPut.k (k := keyS r) upd_same (by omega), ⟨_, rfl⟩, fun b u nb hb => ?_, ?_, ?_, ?_⟩
        · rw [upd_upd, upd_ne (ne_of_none hb hab3)]
          exact k6 b u (ne_of_none hb hlo) (keep b u nb hb)
        · rw [upd_upd, upd_ne nda]
          exact k6 d _ ndl hf
        · rw [tk, upd_upd]
          exact hnew.mono fun b u hb c => by
            rw [upd_ne (fun z : b = ab => ?_)]
            · exact hb
            · rcases c with rfl | ⟨xs, rfl⟩
              · exact nla z
              · rw [z, ha6] at hb
                cases hb
        · rw [upd_upd, upd_same, abs]
          rfl
    · rintro σ' H' ⟨y7, y8, rfl, keep, hf, hl, ha⟩
      have lkv : kvs.length = (P20.nodes T).length := lk
      rw [lkv, List.take_length] at hl ha
      refine ⟨hf, ?_⟩
      have s7 : Same H (upd H' d (.dK kvs)) := fun b u hb => by
        have h2 : H2 b = some u := s2 _ _ (s1 _ _ hb)
        have nb : b ≠ d := ne_of_none h2 n3
        rw [upd_ne nb]
        exact keep b u nb (s3 _ _ h2)
      have nmd : nm ≠ d := ne_of_none hn n3
      have n7 : (upd H' d (.dK kvs)) nm = some (wordsV (P20.leaves T)) := by
        rw [upd_ne nmd]
        exact keep nm _ nmd (s3 _ _ hn)
      have d7 : HalvesAt (upd H' d (.dK kvs)) d ((P20.nodes T).map P20.ent) := ⟨kvs, upd_same, hk2, fun i e' kv g1 g2 => (hk3 i e' kv g1 g2).mono fun t l r z => by
        have ntd : t ≠ d := ne_of z hk1 fun z => by cases z
        rw [upd_ne ntd]
        exact keep t _ ntd z⟩
      have l7 : LotsAt (upd H' d (.dK kvs)) lo (P20.nodes T) := hl.mono fun b u hb c => by
        rw [upd_ne (fun z : b = d => ?_)]
        · exact hb
        · rw [z, hf] at hb
          cases hb
          rcases c with c | ⟨xs, c⟩
          · exact ndl (z.symm.trans c)
          · cases c
      have a7 : (upd H' d (.dK kvs)) ab = some (.dK (aboveK (P20.nodes T))) := by
        rw [upd_ne (Ne.symm nda)]
        exact ha
      have hd7 : (upd H' d (.dK kvs)) d = some (.dK kvs) := upd_same
      generalize upd H' d (.dK kvs) = H7 at s7 n7 d7 l7 a7 hd7 ⊢
      have x7 := s7 _ _ hx
      simp only [L2.start, cxOf, tRet, tAndV, tOrV, tNotV, tCB, tCons, tNil, tVar, tC, tOp, tUn, tTest, tB, tIf, tIfS, tSeq, tAsg, tAnd, tOr, tNot, gName, tNext, tCall, tChain, rI, rI0, rEq, rNe, rGcd, rU, tM1, tM0, tSl, tPart, tNoPart, gTup, gCons, gNil, gSub, tTup, tLst, tPar, L2.rI, List.map_cons, List.map_nil, List.length_cons, List.length_nil, List.cons_append, List.nil_append, List.append_nil, List.getElem?_cons_zero, List.getElem?_cons_succ, List.set_cons_zero, List.set_cons_succ, Option.some.injEq, exists_eq_left, exists_eq_left', exists_eq_right, exists_and_left, exists_and_right, List.cons.injEq, and_true, true_and, V.int.injEq, V.str.injEq, V.bl.injEq, V.ref.injEq, List.replicate, Nat.reduceAdd, Nat.reduceSub, reduceCtorEq, false_and, and_false, if_true, if_false, Bool.false_eq_true, Bool.not_true, Bool.not_false, decide_eq_true_eq, exists_false, or_false, false_or, sFld]
      have nx : ∀ {l : Addr}, H7 l = none → x ≠ l := fun n => ne_of_none x7 n
      have fld : ∀ y ∈ fields, NoAttr K (cT K) y := tc.fld
      have p0 : ∀ v : V, putF "leaves" v [] = ([("leaves", v)] : List (Str × V)) := fun _ => rfl
      refine ⟨_, .inl ⟨SqL.of n7, fun lv hlv => ⟨_, _, _, by rw [upd_ne (nx hlv)]; exact x7, tc.cls, fld _ (by decide), by decide, ?_⟩⟩⟩
      rw [p0]
      have nvx : lv ≠ x := Ne.symm (nx hlv)
      generalize e8 : upd (upd H7 lv (.tup (List.map (fun w => V.str (S w)) (P20.leaves T)))) x (.ins (cT K) dx [("leaves", .ref lv)]) = H8
      have k8 : ∀ b u, b ≠ x → H7 b = some u → H8 b = some u := fun b u nb hb => by
        rw [← e8, upd_ne nb, upd_ne (ne_of_none hb hlv)]
        exact hb
      have x8 : H8 x = some (.ins (cT K) dx [("leaves", .ref lv)]) := by rw [← e8, upd_same]
      have v8 : H8 lv = some (.tup (wV (P20.leaves T))) := by
        rw [← e8, upd_ne nvx, upd_same]
      have ndx : d ≠ x := ne_of hd7 x7 fun z => by cases z
      have d8 := k8 d _ ndx hd7
      refine ⟨d, .dK kvs, d8, trivial, fun od2 => ?_⟩
      refine lc_keys (d := d) (o := od2) (kvs := kvs) (fun R k => ⟨_, rfl, k⟩) upd_same (by omega) (fun _ => rfl) (fun _ => rfl) fun D hD => ?_
      have ndD : d ≠ D := fun z => by rw [← z, upd_same] at hD; cases hD
      have hD8 : H8 D = none := by
        rw [upd_ne (Ne.symm ndD)] at hD
        exact hD
      have kk : kvs.map (fun kv => kV kv.1) = (P20.nodes T).map spV := by
        rw [show (fun kv : Key × V => kV kv.1) = kV ∘ (fun kv : Key × V => kv.1) from rfl, ← List.map_map, kn, List.map_map]
        rfl
      generalize e9 : upd (upd (upd H8 d (.frz od2 (.dK kvs))) D (.lst (List.map (fun kv => kV kv.1) kvs))) d (.dK kvs) = H9
      have k9 : ∀ b u, H8 b = some u → H9 b = some u := fun b u hb => by
        rw [← e9]
        by_cases z : b = d
        · rw [z, upd_same]
          rw [z, d8] at hb
          exact hb
        · rw [upd_ne z, upd_ne (ne_of_none hb hD8), upd_ne z]
          exact hb
      have D9 : H9 D = some (.lst ((P20.nodes T).map spV)) := by
        rw [← e9, upd_ne (Ne.symm ndD), upd_same, kk]
      have x9 := k9 _ _ x8
      have p1 : ∀ a v : V, putF "nodes" v ([("leaves", a)] : List (Str × V)) = ([("leaves", a), ("nodes", v)] : List (Str × V)) := fun _ _ => rfl
      refine ⟨by rw [upd_ne ndD, upd_same], D, rfl, _, .inl ⟨SqL.of D9, fun nn hnn => ⟨_, _, _, by rw [upd_ne (ne_of_none x9 hnn)]; exact x9, tc.cls, fld _ (by decide), by simp, ?_⟩⟩⟩
      rw [p1]
      have nnx : nn ≠ x := Ne.symm (ne_of_none x9 hnn)
      generalize e10 : upd (upd H9 nn (.tup ((P20.nodes T).map spV))) x (.ins (cT K) dx [("leaves", .ref lv), ("nodes", .ref nn)]) = H10
      have k10 : ∀ b u, b ≠ x → H9 b = some u → H10 b = some u := fun b u nb hb => by
        rw [← e10, upd_ne nb, upd_ne (ne_of_none hb hnn)]
        exact hb
      have x10 : H10 x = some (.ins (cT K) dx [("leaves", .ref lv), ("nodes", .ref nn)]) := by rw [← e10, upd_same]
      have t10 : H10 nn = some (.tup ((P20.nodes T).map spV)) := by rw [← e10, upd_ne nnx, upd_same]
      have last : atI ((P20.nodes T).map spV) (-1) = some (spV T) := at_last (by rw [List.getLast?_map, P20.nodes_last]; rfl)
      refine ⟨_, rfl, x, _, _, _, _, rfl, x10, tc.cls, fld _ (by decide), rfl, nn, _, _, _, rfl, rfl, sqT_of t10, last, ?_⟩
      refine ⟨_, _, _, x10, tc.cls, fld _ (by decide), by simp, _, rfl, x, _, _, _, _, rfl, upd_same, tc.cls, fld _ (by decide), rfl, _, _, _, upd_same, tc.cls, fld _ (by decide), by exact (show (3 : Nat) < 1000 by decide), _, _, _, upd_same, tc.cls, fld _ (by decide), by exact (show (4 : Nat) < 1000 by decide), _, _, _, upd_same, tc.cls, fld _ (by decide), by exact (show (5 : Nat) < 1000 by decide),
        _, _, _, upd_same, tc.cls, fld _ (by decide), by exact (show (6 : Nat) < 1000 by decide), ?_⟩
      rw [upd_upd, upd_upd, upd_upd, upd_upd]
      have nox : ∀ {b : Addr} {u : HO}, H7 b = some u → (∀ dx' fs, u ≠ .ins (cT K) dx' fs) → b ≠ x := fun hb hu z => by
        rw [z, x7] at hb
        cases hb
        exact hu _ _ rfl
      have kf : ∀ {w : HO} (b u), b ≠ x → H7 b = some u → upd H10 x w b = some u := fun b u nb hb => by
        rw [upd_ne nb]
        exact k10 _ _ nb (k9 _ _ (k8 _ _ nb hb))
      refine q _ (fun b u nb hb => kf b u nb (s7 _ _ hb)) ⟨dx, lv, nn, d, lo, ab, ?_, ?_, ?_, ?_, ?_, ?_⟩
      · rw [upd_same]
        rfl
      · rw [upd_ne nvx]
        exact k10 _ _ nvx (k9 _ _ v8)
      · rw [upd_ne nnx]
        exact t10
      · obtain ⟨kv', h1, h2, h3⟩ := d7
        exact ⟨kv', kf _ _ ndx h1, h2, fun i e' kv g1 g2 => (h3 i e' kv g1 g2).mono fun t l r z => kf _ _ (nox z fun _ _ e => by cases e) z⟩
      · exact l7.mono fun b u hb c => kf _ _ (nox hb fun _ _ e => by
          subst e
          rcases c with rfl | ⟨xs, c⟩
          · obtain ⟨kl, hkl, _⟩ := l7
            rw [hkl] at hb
            cases hb
          · cases c) hb
      · exact kf _ _ (nox a7 fun _ _ e => by cases e) a7
end
end W20

set_option Elab.async false
set_option linter.all false
set_option maxRecDepth 100000
set_option maxHeartbeats 4000000
/-! EE20: _law_names -/
namespace W20
open PySem PySem.Spec PyProof.Rows L2 Lay
open SX (S S_len S_cat S_tl)
open C8 (Cal pe_c pe_gc fnScope_by E0)
/-- n with a number behind it -/
def nw (j : Nat) : List Nat := 110 :: (Str.ofString (toString (j : Int))).cps.toList
theorem nw_name : ∀ j < 64, nameB (nw j) = true := by decide +kernel
theorem nw_nodup : ((List.range 64).map nw).Nodup := by decide +kernel
theorem nw_ne {i j : Nat} (hi : i < 64) (hj : j < 64) (h : nw i = nw j) : i = j := by
  have h1 : ((List.range 64).map nw)[i]? = some (nw i) := by rw [List.getElem?_map, List.getElem?_range hi]; rfl
  have h2 : ((List.range 64).map nw)[j]? = some (nw i) := by rw [List.getElem?_map, List.getElem?_range hj, h]; rfl
  have l : ((List.range 64).map nw).length = 64 := by rw [List.length_map, List.length_range]
  obtain ⟨l1, e1⟩ := List.getElem?_eq_some_iff.mp h1
  obtain ⟨l2, e2⟩ := List.getElem?_eq_some_iff.mp h2
  exact (List.getElem_inj nw_nodup).mp (e1.trans e2.symm)
theorem nw_few {n : Nat} {ys : List (List Nat)} (hn : n ≤ 64) (h : ∀ i < n, nw i ∈ ys) : n ≤ ys.length := by
  have nd : ((List.range n).map nw).Nodup := by
    rw [List.nodup_iff_pairwise_ne, List.pairwise_map]
    exact (List.nodup_iff_pairwise_ne.mp List.nodup_range).imp_of_mem fun ha hb ne e => ne (nw_ne (by have := List.mem_range.mp ha; omega) (by have := List.mem_range.mp hb; omega) e)
  have := pigeons nd (ys := ys) fun x hx => by
    obtain ⟨i, hi, rfl⟩ := List.mem_map.mp hx
    exact h i (List.mem_range.mp hi)
  rw [List.length_map, List.length_range] at this
  exact this
theorem inV_words (u : List Nat) : ∀ ws : List P20.Wd, inV (V.str (S u)) (wV ws) = decide (u ∈ ws)
  | [] => rfl
  | w :: r => by
    have ih := inV_words u r
    unfold inV at ih ⊢
    have e1 : wV (w :: r) = V.str (S w) :: wV r := rfl
    rw [e1, List.any_cons, ih]
    have e : eqV (V.str (S w)) (V.str (S u)) = decide (u = w) := by
      show (S w == S u) = _
      rw [SX.S_beq_eq, Bool.eq_iff_iff, decide_eq_true_eq, decide_eq_true_eq]
      exact ⟨Eq.symm, Eq.symm⟩
    rw [e, Bool.eq_iff_iff, Bool.or_eq_true, decide_eq_true_eq, decide_eq_true_eq, decide_eq_true_eq, List.mem_cons]
theorem rin_words {K : PySem.W.Frag} {H : Hp} {t : Addr} {u : List Nat} {ws : List P20.Wd} {R : VK} (h : H t = some (wordsV ws)) (k : R (.bl (!decide (u ∈ ws))) H) : rIn K true (.str (S u)) (.ref t) H R := by
  refine ⟨t, _, rfl, .inl (SqL.of h), rfl, ?_, ?_⟩
  · rw [List.all_eq_true]
    intro v hv
    obtain ⟨w, _, rfl⟩ := List.mem_map.mp hv
    rfl
  · rw [if_pos rfl, inV_words]
    exact k
section
variable {P : Program} {w : World} {K : PySem.W.Frag} {mg : Str → Option Value} {base : Heap} {f : Addr} {fd : FuncData}
theorem sc50 : FnScope ["bag", "many", "taken", "made", "k", "word", "j"] ["bag", "many", "taken"] (defScope (top 47)) := fnScope_by (by decide +kernel)
def spNamesL : Sp := fun vs H Q _ => ∃ (b t : Addr) (many : Nat) (taken : List P20.Wd), vs = [.ref b, .int (many : Int), .ref t] ∧ Bag H b ∧ H t = some (wordsV taken) ∧ t ≠ b ∧ many ≤ 25 ∧ taken.length ≤ 21 ∧
  ∀ H' a ws, Ex b H H' → H a = none → H' a = some (wordsV ws) → ws.length = many → ws.Nodup → (∀ u ∈ ws, nameB u = true ∧ u ∉ taken) → Q (.ref a) H'
theorem ok_names (m : Mg K mg) (dk : DigK K) (c__law_name : Cal P w K mg base 3 "_law_name" spName []) (F : Fn K "_law_names" 47 f fd) (g : mg "_law_names" = some (.ref f)) : Cal P w K mg base 4 "_law_names" spNamesL [] := by
  have sc := sc50
  refine calD F g sc (fun _ _ _ _ _ _ us hl => match us, hl with | [_, _, _], _ => rfl) ?_ fun cdv A outer s H vs Q E hr h => ?_
  · rintro vs H Q E ⟨b, t, many, taken, rfl, _⟩
    rfl
  · obtain ⟨b, t, many, taken, rfl, bag, ht, tb, mx, tx, q⟩ := h
    refine ⟨_, (pss_cons (ps_set (i := 3) sc.nd rfl (.inl rfl) (pe_lst pa_nil))
      (pss_cons (ps_for pown rfl (pi_range1 rfl m.range_ (pa_cons (pv 1) pa_nil)) (pg_name (i := 4) sc.nd rfl (.inl rfl))
        (pss_cons (ps_set (i := 5) sc.nd rfl (.inl rfl) (pe_c c__law_name hr (by decide) (by rfl) (pa_cons (pv 0) pa_nil)))
        (pss_cons (ps_for pown rfl (pi_range1 rfl m.range_ (pa_cons (pe_op op_add (pe_op op_add (pv 1) (pe_callB call_len (by rfl) m.len_ boot_len (pa_cons (pv 2) pa_nil))) pe_int) pa_nil)) (pg_name (i := 6) sc.nd rfl (.inl rfl))
          (pss_cons (ps_if ((pw_and (pt_cmpR op_notIn_seq (pv 5) (pv 2) rfl) (pw_and1 (pt_cmpR op_notIn_seq (pv 5) (pv 3) rfl)))).pt
            (pss_one ps_break)
            pss_nil)
          (pss_one (ps_set (i := 5) sc.nd rfl (.inl rfl) (pe_op op_add_str pe_str (pe_callTy (call_strBig rfl dk) (by rfl) m.str_ boot_str (pa_cons (pv 6) pa_nil)))))))
        (pss_one (ps_expr (pe_bm PySem.F.plainAttrs_list PySem.F.slot_list_append PySem.F.type_list_append mt_append (pv 3) (pa_cons (pv 5) pa_nil)))))))
      (pss_one (ps_ret (pv 3))))), ?_⟩
    have szl := sizeLine_eq
    simp only [L2.start, cxOf, tRet, tAndV, tOrV, tNotV, tCB, tCons, tNil, tVar, tC, tOp, tUn, tTest, tB, tSeq, tAsg, tNot, gName, tNext, tCall, tChain, rI, rI0, rEq, rNe, rGcd, rU, tM1, tM0, tSl, tPart, tNoPart, gTup, gCons, gNil, gSub, tTup, tLst, tPar, L2.rI, List.map_cons, List.map_nil, List.length_cons, List.length_nil, List.cons_append, List.nil_append, List.append_nil, List.getElem?_cons_zero, List.getElem?_cons_succ, List.set_cons_zero, List.set_cons_succ, Option.some.injEq, exists_eq_left, exists_eq_left', exists_eq_right, exists_and_left, exists_and_right, List.cons.injEq, and_true, true_and, V.int.injEq, V.str.injEq, V.bl.injEq, V.ref.injEq, List.replicate, Nat.reduceAdd, Nat.reduceSub, reduceCtorEq, false_and, and_false, if_true, if_false, Bool.false_eq_true, Bool.not_true, Bool.not_false, decide_eq_true_eq, exists_false, or_false, false_or]
    refine ⟨small (by decide), fun p hp => ?_⟩
    refine for_range_at (n := many) (by omega) (fun R k => ⟨_, rfl, k⟩) ⟨fun k σ' H' => ∃ (ws : List P20.Wd) (y4 y5 y6 : Option V), σ' = [some (.ref b), some (.int (many : Int)), some (.ref t), some (.ref p), y4, y5, y6] ∧ Ex b H H' ∧ ws.length = k ∧ ws.Nodup ∧ (∀ u ∈ ws, nameB u = true ∧ u ∉ taken) ∧ H' p = some (wordsV ws),
      ⟨[], none, none, none, rfl, (Ex.rf bag).sm (same_new hp), rfl, List.nodup_nil, (fun u z => by cases z), upd_same⟩, ?_, ?_⟩
    · rintro k σ' H' hk ⟨ws, y4, y5, y6, rfl, x1, lw, nd, good, hw⟩
      simp only [L2.start, cxOf, tRet, tAndV, tOrV, tNotV, tCB, tCons, tNil, tVar, tC, tOp, tUn, tTest, tB, tSeq, tAsg, tNot, gName, tNext, tCall, tChain, rI, rI0, rEq, rNe, rGcd, rU, tM1, tM0, tSl, tPart, tNoPart, gTup, gCons, gNil, gSub, tTup, tLst, tPar, L2.rI, List.map_cons, List.map_nil, List.length_cons, List.length_nil, List.cons_append, List.nil_append, List.append_nil, List.getElem?_cons_zero, List.getElem?_cons_succ, List.set_cons_zero, List.set_cons_succ, Option.some.injEq, exists_eq_left, exists_eq_left', exists_eq_right, exists_and_left, exists_and_right, List.cons.injEq, and_true, true_and, V.int.injEq, V.str.injEq, V.bl.injEq, V.ref.injEq, List.replicate, Nat.reduceAdd, Nat.reduceSub, reduceCtorEq, false_and, and_false, if_true, if_false, Bool.false_eq_true, Bool.not_true, Bool.not_false, decide_eq_true_eq, exists_false, or_false, false_or]
      have pb : p ≠ b := fun z => by
        obtain ⟨l0, ns0, pos0, big0, mixed0, cnt0, left0, f1, _⟩ := bag
        rw [z, f1] at hp
        cases hp
      refine ⟨b, rfl, x1.bag, fun H1 u0 x2 hu0 => ?_⟩
      have x12 := x1.tr x2
      have ht1 := x12.keep t _ tb ht
      have hw1 := x2.keep p _ pb hw
      have ltk : LenV K (.ref t) H1 taken.length := by
        have := len_L (K := K) (SqL.of ht1)
        rwa [List.length_map] at this
      refine for_range_at (n := many + taken.length + 1) (by omega) (fun R k => ?_) ⟨fun j σ' H' => H' = H1 ∧ ∃ (u : P20.Wd) (y6 : Option V), σ' = [some (.ref b), some (.int (many : Int)), some (.ref t), some (.ref p), some (.int (k : Int)), some (.str (S u)), y6] ∧ nameB u = true ∧ (∀ i, i + 1 < j → nw i ∈ taken ++ ws) ∧ ∀ i, j = i + 1 → u = nw i,
        ⟨rfl, u0, y6, rfl, hu0, (fun i z => by omega), fun i z => by omega⟩, ?_, ?_⟩
      · simp only [L2.start, cxOf, tRet, tAndV, tOrV, tNotV, tCB, tCons, tNil, tVar, tC, tOp, tUn, tTest, tB, tIf, tIfS, tSeq, tAsg, tAnd, tOr, tNot, gName, tNext, tCall, tChain, rI, rI0, rEq, rNe, rGcd, rU, tM1, tM0, tSl, tPart, tNoPart, gTup, gCons, gNil, gSub, tTup, tLst, tPar, L2.rI, List.map_cons, List.map_nil, List.length_cons, List.length_nil, List.cons_append, List.nil_append, List.append_nil, List.getElem?_cons_zero, List.getElem?_cons_succ, List.set_cons_zero, List.set_cons_succ, Option.some.injEq, exists_eq_left, exists_eq_left', exists_eq_right, exists_and_left, exists_and_right, List.cons.injEq, and_true, true_and, V.int.injEq, V.str.injEq, V.bl.injEq, V.ref.injEq, List.replicate, Nat.reduceAdd, Nat.reduceSub, reduceCtorEq, false_and, and_false, if_true, if_false, Bool.false_eq_true, Bool.not_true, Bool.not_false, decide_eq_true_eq, exists_false, or_false, false_or]
        refine ⟨_, ltk, ?_⟩
        have e : ((many : Int) + (taken.length : Int) + 1) = ((many + taken.length + 1 : Nat) : Int) := by omega
        rw [e]
        exact k
      · rintro j σ' H' hj ⟨rfl, u, y6, rfl, hu, fol, cur⟩
        simp only [L2.start, cxOf, tRet, tAndV, tOrV, tNotV, tCB, tCons, tNil, tVar, tC, tOp, tUn, tTest, tB, tIf, tIfS, tSeq, tAsg, tAnd, tOr, tNot, gName, tNext, tCall, tChain, rI, rI0, rEq, rNe, rGcd, rU, tM1, tM0, tSl, tPart, tNoPart, gTup, gCons, gNil, gSub, tTup, tLst, tPar, L2.rI, List.map_cons, List.map_nil, List.length_cons, List.length_nil, List.cons_append, List.nil_append, List.append_nil, List.getElem?_cons_zero, List.getElem?_cons_succ, List.set_cons_zero, List.set_cons_succ, Option.some.injEq, exists_eq_left, exists_eq_left', exists_eq_right, exists_and_left, exists_and_right, List.cons.injEq, and_true, true_and, V.int.injEq, V.str.injEq, V.bl.injEq, V.ref.injEq, List.replicate, Nat.reduceAdd, Nat.reduceSub, reduceCtorEq, false_and, and_false, if_true, if_false, Bool.false_eq_true, Bool.not_true, Bool.not_false, decide_eq_true_eq, exists_false, or_false, false_or]
        have next : u ∈ taken ++ ws → (nw j ∈ taken ++ ws → True) → (∀ i, i + 1 < j + 1 → nw i ∈ taken ++ ws) := fun hm _ i hi => by
          by_cases z : i + 1 < j
          · exact fol i z
          · have e : j = i + 1 := by omega
            rw [← cur i e]
            exact hm
        have go : u ∈ taken ++ ws → Lay.Short (j : Int) ∧ (S [110]).length + (Str.ofString (toString (j : Int))).length ≤ sizeLine ∧ (∀ i, i + 1 < j + 1 → nw i ∈ taken ++ ws) ∧ nameB (nw j) = true ∧ S [110] ++ Str.ofString (toString (j : Int)) = S (nw j) := fun hm => by
          have nj := nw_name j (by omega)
          have lj := name_len nj
          refine ⟨?_, ?_, next hm fun _ => trivial, nj, ?_⟩
          · unfold Lay.Short
            exact Nat.lt_of_lt_of_le (show ((j : Int)).natAbs < 100 by omega) (Nat.le_trans (by decide : 100 ≤ 10 ^ 2) (Nat.pow_le_pow_right (by decide) (by decide)))
          · have e2 : (Str.ofString (toString (j : Int))).length = (nw j).length - 1 := rfl
            rw [e2, S_len, szl]
            simp only [List.length_singleton]
            omega
          · have e2 : Str.ofString (toString (j : Int)) = S (Str.ofString (toString (j : Int))).cps.toList := (S_tl _).symm
            rw [e2, S_cat]
            rfl
        have en : (Str.ofString "n") = S [110] := by decide +kernel
        refine rin_words ht1 ⟨_, rfl, ?_⟩
        by_cases a1 : u ∈ taken
        · rw [if_neg (by simp [a1])]
          obtain ⟨g1, g2, g3, g4, g5⟩ := go (List.mem_append_left _ a1)
          simp only [L2.start, cxOf, tRet, tAndV, tOrV, tNotV, tCB, tCons, tNil, tVar, tC, tOp, tUn, tTest, tB, tIf, tIfS, tSeq, tAsg, tAnd, tOr, tNot, gName, tNext, tCall, tChain, rI, rI0, rEq, rNe, rGcd, rU, tM1, tM0, tSl, tPart, tNoPart, gTup, gCons, gNil, gSub, tTup, tLst, tPar, L2.rI, List.map_cons, List.map_nil, List.length_cons, List.length_nil, List.cons_append, List.nil_append, List.append_nil, List.getElem?_cons_zero, List.getElem?_cons_succ, List.set_cons_zero, List.set_cons_succ, Option.some.injEq, exists_eq_left, exists_eq_left', exists_eq_right, exists_and_left, exists_and_right, List.cons.injEq, and_true, true_and, V.int.injEq, V.str.injEq, V.bl.injEq, V.ref.injEq, List.replicate, Nat.reduceAdd, Nat.reduceSub, reduceCtorEq, false_and, and_false, if_true, if_false, Bool.false_eq_true, Bool.not_true, Bool.not_false, decide_eq_true_eq, exists_false, or_false, false_or]
          rw [en]
          refine ⟨g1, g2, nw j, ⟨g5, _, rfl⟩, g4, g3, fun i e => ?_⟩
          obtain rfl : j = i := by omega
          rfl
        · rw [if_pos (by simp [a1])]
          refine rin_words hw1 ⟨_, rfl, ?_⟩
          by_cases a2 : u ∈ ws
          · rw [if_neg (by simp [a2])]
            obtain ⟨g1, g2, g3, g4, g5⟩ := go (List.mem_append_right _ a2)
            simp only [L2.start, cxOf, tRet, tAndV, tOrV, tNotV, tCB, tCons, tNil, tVar, tC, tOp, tUn, tTest, tB, tIf, tIfS, tSeq, tAsg, tAnd, tOr, tNot, gName, tNext, tCall, tChain, rI, rI0, rEq, rNe, rGcd, rU, tM1, tM0, tSl, tPart, tNoPart, gTup, gCons, gNil, gSub, tTup, tLst, tPar, L2.rI, List.map_cons, List.map_nil, List.length_cons, List.length_nil, List.cons_append, List.nil_append, List.append_nil, List.getElem?_cons_zero, List.getElem?_cons_succ, List.set_cons_zero, List.set_cons_succ, Option.some.injEq, exists_eq_left, exists_eq_left', exists_eq_right, exists_and_left, exists_and_right, List.cons.injEq, and_true, true_and, V.int.injEq, V.str.injEq, V.bl.injEq, V.ref.injEq, List.replicate, Nat.reduceAdd, Nat.reduceSub, reduceCtorEq, false_and, and_false, if_true, if_false, Bool.false_eq_true, Bool.not_true, Bool.not_false, decide_eq_true_eq, exists_false, or_false, false_or]
            rw [en]
            refine ⟨g1, g2, nw j, ⟨g5, _, rfl⟩, g4, g3, fun i e => ?_⟩
            obtain rfl : j = i := by omega
            rfl
          · rw [if_pos (by simp [a2])]
            simp only [L2.start, cxOf, tRet, tAndV, tOrV, tNotV, tCB, tCons, tNil, tVar, tC, tOp, tUn, tTest, tB, tIf, tIfS, tSeq, tAsg, tAnd, tOr, tNot, gName, tNext, tCall, tChain, rI, rI0, rEq, rNe, rGcd, rU, tM1, tM0, tSl, tPart, tNoPart, gTup, gCons, gNil, gSub, tTup, tLst, tPar, L2.rI, List.map_cons, List.map_nil, List.length_cons, List.length_nil, List.cons_append, List.nil_append, List.append_nil, List.getElem?_cons_zero, List.getElem?_cons_succ, List.set_cons_zero, List.set_cons_succ, Option.some.injEq, exists_eq_left, exists_eq_left', exists_eq_right, exists_and_left, exists_and_right, List.cons.injEq, and_true, true_and, V.int.injEq, V.str.injEq, V.bl.injEq, V.ref.injEq, List.replicate, Nat.reduceAdd, Nat.reduceSub, reduceCtorEq, false_and, and_false, if_true, if_false, Bool.false_eq_true, Bool.not_true, Bool.not_false, decide_eq_true_eq, exists_false, or_false, false_or, tBreak, tDrop, tBM, rAppend]
            refine ⟨.inl ⟨rfl, _, SqL.of hw1⟩, _, hw1, by rw [List.length_map, szl]; omega, ⟨_, rfl⟩, x12.put bag hp, ws ++ [u], by rw [List.length_append, lw]; rfl, ?_, ?_, ?_⟩
            · rw [List.nodup_append]
              exact ⟨nd, by simp, fun a ha c hc e => a2 (by rw [← List.mem_singleton.mp hc, ← e]; exact ha)⟩
            · intro v hv
              rcases List.mem_append.mp hv with hv | hv
              · exact good v hv
              · rw [List.mem_singleton.mp hv]
                exact ⟨hu, a1⟩
            · rw [upd_same, wordsV, List.map_append]
              rfl
      · rintro σ' H' ⟨rfl, u, y6, rfl, hu, fol, cur⟩
        exfalso
        have h1 := nw_few (n := many + taken.length) (ys := taken ++ ws) (by omega) fun i hi => fol i (by omega)
        rw [List.length_append] at h1
        omega
    · rintro σ' H' ⟨ws, y4, y5, y6, rfl, x1, lw, nd, good, hw⟩
      simp only [L2.start, cxOf, tRet, tAndV, tOrV, tNotV, tCB, tCons, tNil, tVar, tC, tOp, tUn, tTest, tB, tIf, tIfS, tSeq, tAsg, tAnd, tOr, tNot, gName, tNext, tCall, tChain, rI, rI0, rEq, rNe, rGcd, rU, tM1, tM0, tSl, tPart, tNoPart, gTup, gCons, gNil, gSub, tTup, tLst, tPar, L2.rI, List.map_cons, List.map_nil, List.length_cons, List.length_nil, List.cons_append, List.nil_append, List.append_nil, List.getElem?_cons_zero, List.getElem?_cons_succ, List.set_cons_zero, List.set_cons_succ, Option.some.injEq, exists_eq_left, exists_eq_left', exists_eq_right, exists_and_left, exists_and_right, List.cons.injEq, and_true, true_and, V.int.injEq, V.str.injEq, V.bl.injEq, V.ref.injEq, List.replicate, Nat.reduceAdd, Nat.reduceSub, reduceCtorEq, false_and, and_false, if_true, if_false, Bool.false_eq_true, Bool.not_true, Bool.not_false, decide_eq_true_eq, exists_false, or_false, false_or]
      exact q H' p ws x1 hp hw lw nd good
end
end W20

set_option Elab.async false
set_option linter.all false
set_option maxRecDepth 100000
set_option maxHeartbeats 4000000
/-! HQ20: helpers for the methods -/
namespace W20
open PySem PySem.Spec PyProof.Rows L2 Lay
open SX (S S_len S_cat S_tl)
/-- a piece of a text that is joined -/
def Piece (σ : L2.St) (H : Hp) (te : TE) (y : List Nat) : Prop := ∀ R : VK, R (.str (S y)) H → te σ H R
def Pieces (σ : L2.St) (H : Hp) : List TE → List (List Nat) → Prop
  | [], [] => True
  | t :: ts, y :: ys => Piece σ H t y ∧ Pieces σ H ts ys
  | _, _ => False
theorem js_all {σ : L2.St} {H : Hp} {R : Str → Hp → Prop} : ∀ {ts : List TE} {ys : List (List Nat)} {acc : List Nat}, Pieces σ H ts ys → acc.length + ys.flatten.length ≤ 1000000 → R (S (acc ++ ys.flatten)) H → tJs ts (S acc) σ H R
  | [], [], acc, _, _, k => by
    rw [List.flatten_nil, List.append_nil] at k
    exact k
  | t :: ts, y :: ys, acc, h, hb, k => by
    rw [List.flatten_cons] at hb k
    rw [List.length_append] at hb
    obtain ⟨h1, h2⟩ := h
    · refine h1 _ ⟨S y, rfl, ?_, ?_⟩
      · rw [S_cat, S_len, List.length_append, sizeLine_eq]
        omega
      · rw [S_cat]
        exact js_all h2 (by rw [List.length_append]; omega) (by rw [List.append_assoc]; exact k)
  | [], _ :: _, _, h, _, _ => h.elim
  | _ :: _, [], _, h, _, _ => h.elim
theorem piece_c {σ : L2.St} {H : Hp} {z : Str} {y : List Nat} (e : z = S y) : Piece σ H (tC (.str z)) y := fun R k => by
  subst e
  exact k
theorem piece_f {σ : L2.St} {H : Hp} {te : TE} {y : List Nat} (hl : y.length ≤ 1000000) (h : ∀ R : VK, R (.str (S y)) H → te σ H R) : Piece σ H (tFmtB te) y := fun R k => h _ (.inl ⟨S y, rfl, by rw [S_len, sizeLine_eq]; omega, k⟩)

/-- a comprehension over a tuple -/
theorem lc_tupl {K : PySem.W.Frag} {tl : TE} {tt : TT} {te : TE} {v : Nat} {σ : L2.St} {H H1 : Hp} {Q : VK} {l : Addr} {xs : List V} (h : ∀ R : VK, R (.ref l) H1 → tl σ H R) (hl : SqT K H1 l xs)
    (hw : ∀ x, wipe ((wipe σ [v]).set v (some x)) [v] = wipe σ [v])
    (k : ∀ D, H1 D = none → ∃ Pv : Nat → Hp → Prop, Pv 0 (upd H1 D (.lst [])) ∧ (∀ i H', i ≤ xs.length → Pv i H' → SqT K H' l xs) ∧
      (∀ i x H', xs[i]? = some x → Pv i H' → tt ((wipe σ [v]).set v (some x)) H' fun b H3 => if b = true then te ((wipe σ [v]).set v (some x)) H3 fun y H4 => ∃ acc, H4 D = some (.lst acc) ∧ acc.length < sizeLine ∧ Pv (i + 1) (upd H4 D (.lst (acc ++ [y]))) else Pv (i + 1) H3) ∧
      ∀ H', Pv xs.length H' → Q (.ref D) H') :
    tLc (iTup K tl) (gName v) tt te [v] σ H Q := by
  refine h _ ⟨l, rfl, ⟨xs, hl⟩, fun D hD => ?_⟩
  obtain ⟨Pv, h0, hG, hs, hd⟩ := k D hD
  refine lc_it (walk_tup (xs := xs)) Pv h0 (fun i H' hi hP => hG i H' hi hP) ?_ hd
  rintro i x H' H2 hi hP ⟨rfl, e⟩
  exact ⟨hw _, hs i x _ e hP⟩
theorem rin_wordsT {K : PySem.W.Frag} {H : Hp} {t : Addr} {u : List Nat} {ws : List P20.Wd} {R : VK} (h : H t = some (.tup (wV ws))) (k : R (.bl (!decide (u ∈ ws))) H) : rIn K true (.str (S u)) (.ref t) H R := by
  refine ⟨t, _, rfl, .inr (sqT_of h), rfl, ?_, ?_⟩
  · rw [List.all_eq_true]
    intro v hv
    obtain ⟨w, _, rfl⟩ := List.mem_map.mp hv
    rfl
  · rw [if_pos rfl, inV_words]
    exact k
theorem dp_strs {K : PySem.W.Frag} {H : Hp} : ∀ xs : List P20.Wd, DpAll K H (wV xs) (xs.map fun w => PyData.str (S w))
  | [] => .nil
  | x :: xs => .cons (.str _) (dp_strs xs)
theorem lay_strs : ∀ {xs : List P20.Wd}, (∀ u ∈ xs, PyData.strOk (S u) = true) → PyData.canLayAll0 (xs.map fun w => PyData.str (S w)) = true
  | [], _ => rfl
  | x :: xs, h => by
    simp [PyData.canLayAll0, PyData.canLay0, h x List.mem_cons_self, lay_strs (xs := xs) fun u hu => h u (List.mem_cons_of_mem _ hu)]
theorem depth_strs : ∀ xs : List P20.Wd, PyData.depthAll (xs.map fun w => PyData.str (S w)) ≤ 1
  | [] => by simp [PyData.depthAll]
  | x :: xs => by
    have := depth_strs xs
    simp only [List.map_cons, PyData.depthAll, PyData.depth]
    omega
theorem eq_nilS {K : PySem.W.Frag} {H : Hp} {a l : Addr} {xs : List P20.Wd} {Q : VK} (ha : SqL K H a (wV xs)) (hl : H l = some (.lst [])) (ho : ∀ u ∈ xs, PyData.strOk (S u) = true) (q : Q (.bl (decide (xs = []))) H) : rEqD K (.ref a) (.ref l) H Q := by
  refine ⟨_, .list [], .lst ha (dp_strs xs), .lst (SqL.of hl) .nil, ?_, by decide +kernel, ?_⟩
  · unfold SeqAt.shaped
    have := depth_strs xs
    simp only [PyData.canLay0, PyData.depth, lay_strs ho, Bool.true_and, decide_eq_true_eq]
    exact decide_eq_true (by omega)
  · have e : PyData.eqv (.list (xs.map fun w => PyData.str (S w))) (.list []) = decide (xs = []) := by
      cases xs <;> rfl
    rw [e]
    exact q
theorem for_list_in {K : PySem.W.Frag} {tl : TE} {g : TG} {tb : TS} {D : Ends} {σ : L2.St} {H : Hp} {Pre : Hp → Addr → Prop} (h : ∀ R : VK, (∀ H1 l, Pre H1 l → R (.ref l) H1) → tl σ H R) (k : ∀ H1 l, Pre H1 l → ∃ xs, SqL K H1 l xs ∧ LoopL K g tb D σ H1 l xs) : tFor (iList K tl) g tb D σ H :=
  h _ fun H1 l p => by
    obtain ⟨xs, hs, lp⟩ := k H1 l p
    exact ⟨l, rfl, ⟨xs, hs⟩, lp.run⟩
/-- what a walk over the tuple at l is to keep -/
def LoopT (K : PySem.W.Frag) (g : TG) (tb : TS) (D : Ends) (σ : L2.St) (H : Hp) (l : Addr) (xs : List V) : Prop := ∃ Pv : Nat → L2.St → Hp → Prop, Pv 0 σ H ∧ (∀ i σ' H', i ≤ xs.length → Pv i σ' H' → SqT K H' l xs) ∧
  (∀ i x σ' H', xs[i]? = some x → Pv i σ' H' → g x σ' H' fun σ2 H2 => tb { D with nx := Pv (i + 1), ct := Pv (i + 1), bk := D.nx } σ2 H2) ∧ ∀ σ' H', Pv xs.length σ' H' → D.nx σ' H'
theorem LoopT.run {K : PySem.W.Frag} {g : TG} {tb : TS} {D : Ends} {σ : L2.St} {H : Hp} {l : Addr} {xs : List V} (h : LoopT K g tb D σ H l xs) : ∃ W : Nat → Nat → L2.St → Hp → Prop, (∃ m, W 0 m σ H) ∧ ∀ i m σ H, W i m σ H →
    ((Itt K l).stop i H ∧ D.nx σ H) ∨ ((Itt K l).go i H ∧ ∃ N : L2.St → Hp → Prop, (∀ σ' H', N σ' H' → ∃ m', m' < m ∧ W (i + 1) m' σ' H') ∧ ∀ x H', (Itt K l).yld i H x H' → g x σ H' fun σ2 H2 => tb { D with nx := N, ct := N, bk := D.nx } σ2 H2) := by
  obtain ⟨Pv, h0, hl, hs, hd⟩ := h
  refine for_it (walk_tup (xs := xs)) Pv h0 hl ?_ hd
  rintro i x σ' H' H2 hi hP ⟨rfl, e⟩
  exact hs i x σ' H2 e hP
theorem for_tup_in {K : PySem.W.Frag} {tl : TE} {g : TG} {tb : TS} {D : Ends} {σ : L2.St} {H : Hp} {Pre : Hp → Addr → Prop} (h : ∀ R : VK, (∀ H1 l, Pre H1 l → R (.ref l) H1) → tl σ H R) (k : ∀ H1 l, Pre H1 l → ∃ xs, SqT K H1 l xs ∧ LoopT K g tb D σ H1 l xs) : tFor (iTup K tl) g tb D σ H :=
  h _ fun H1 l p => by
    obtain ⟨xs, hs, lp⟩ := k H1 l p
    exact ⟨l, rfl, ⟨xs, hs⟩, lp.run⟩
/-- the first k of a tuple -/
theorem sl_first {α : Type} {fn : α → V} {K : PySem.W.Frag} {H : Hp} {q : Addr} {xs : List α} {R : VK} (k : Nat) (h : H q = some (.tup (xs.map fn))) (r : ∀ H1 a, Same H H1 → H1 a = some (.tup ((xs.take k).map fn)) → R (.ref a) H1) : rSlA K (.ref q) none (some (k : Int)) H R := by
  refine ⟨q, _, rfl, sqT_of h, fun ⟨_, e⟩ => ?_, fun ne p hp => ?_⟩
  · rw [HT.sIx_nat, List.length_map] at e
    refine r H q (Same.refl H) ?_
    rw [List.take_of_length_le (by omega)]
    exact h
  · have le : k ≤ xs.length := by
      refine Nat.le_of_not_lt fun z => ne ⟨rfl, ?_⟩
      rw [HT.sIx_nat, List.length_map]
      omega
    refine r _ p (same_new hp) ?_
    rw [upd_same, cut_to le]
theorem _root_.L2.Same.fresh {H H' : Hp} {a : Addr} (s : Same H H') (h : H' a = none) : H a = none := s.free h
/-- a text that is no node's -/
theorem key_no {kvs : List (Key × V)} {ns : List P20.Tr} {a : List Nat} (h : kvs.map (·.1) = ns.map keyS) (no : ∀ n ∈ ns, P20.spell n ≠ a) : valV kvs (.inr (S a)) = none := by
  refine val_no fun z => ?_
  rw [h] at z
  obtain ⟨n, hn, e⟩ := List.mem_map.mp z
  exact no n hn (SX.S_inj (Sum.inr.inj e))
theorem halves_keys {H : Hp} {a : Addr} {T : P20.Tr} (h : HalvesAt H a ((P20.nodes T).map P20.ent)) : ∃ kvs, H a = some (.dK kvs) ∧ kvs.map (·.1) = (P20.nodes T).map keyS := by
  obtain ⟨kvs, h1, h2, _⟩ := h
  refine ⟨kvs, h1, ?_⟩
  rw [h2, List.map_map]
  exact List.map_congr_left fun t _ => by show (Sum.inr (S (P20.ent t).1) : Key) = _; rw [P20.ent_key]; rfl
theorem lots_keys {H : Hp} {a : Addr} {ns : List P20.Tr} (h : LotsAt H a ns) : ∃ kvs, H a = some (.dK kvs) ∧ kvs.map (·.1) = ns.map keyS := by
  obtain ⟨kvs, h1, h2, _⟩ := h
  exact ⟨kvs, h1, h2⟩
end W20

set_option Elab.async false
set_option linter.all false
set_option maxRecDepth 100000
set_option maxHeartbeats 4000000
/-! ME20: the methods of Tree -/
namespace W20
open PySem PySem.Spec PyProof.Rows L2 Lay
open SX (S S_len S_cat S_tl)
open C8 (Cal Mak Met pe_c pe_mk pe_gc fnScope_by E0)
/-- what isinstance and == ask of the class -/
structure Ti (K : PySem.W.Frag) : Prop where
  cl : PySem.W.findIn K (.ref (cT K)) "__class__" = some (some (.builtin "object.__class__"))
  hn : PySem.W.specialIn K (.builtin "object.__class__") "__get__" = some (some (.builtin "getset_descriptor.__get__"))
  tk : PySem.W.takesIn K (.builtin "object.__class__") = some true
  mo : PySem.W.mroIn K (cT K) (.type "object") = some true
  me : PySem.W.kitOne K (.ref (cT K)) (.ref (cT K)) = some true
  no : ∀ t ∈ (["str", "tuple", "int"] : List String), PySem.W.kitOne K (.type t) (.ref (cT K)) = some false ∧ PySem.W.notFirst K (cT K) (.type t) = true
  ne : PySem.W.findIn K (.ref (cT K)) "__ne__" = some (some (.builtin "object.__ne__"))
/-- the node of a tree that a text tells, or none -/
def NodeOf (T : P20.Tr) (a : List Nat) (no : Prop) (yes : P20.Tr → Prop) : Prop := (∃ n ∈ P20.nodes T, a = P20.spell n ∧ yes n) ∨ ((∀ n ∈ P20.nodes T, P20.spell n ≠ a) ∧ no)
section
variable {P : Program} {w : World} {K : PySem.W.Frag} {mg : Str → Option Value} {base : Heap} {f fN CN : Addr} {fd fdN : FuncData}
theorem scLot : FnScope ["self", "node"] ["self", "node"] (defScope (inClass (top 33) 1)) := fnScope_by (by decide +kernel)
def spLot (C CN : Addr) : Sp := fun vs H Q E => ∃ x T a, vs = [.ref x, .str (S a)] ∧ TreeAt C H x T ∧ P20.Ok T ∧ (P20.leaves T).Nodup ∧
  NodeOf T a (Raised CN "name" (.str (S a)) H E) fun n => ∀ t, H t = some (.tup (wV (P20.leaves n))) → Q (.ref t) H
theorem ok_lot (tc : Tc K mg) (me : Meth K (cT K) "lot" f) (N : NoS K mg CN fN fdN) (F : Mt K "lot" "Tree.lot" 33 1 f fd) : MetN P w K mg base 3 (cT K) "lot" (spLot (cT K) CN) := by
  have sc := scLot
  have bI : Binds K fdN ["self", "name"] [] := N.F.bindsN fun _ _ _ _ _ _ us hl => match us, hl with | [_, _], _ => rfl
  refine metN tc.cls me F sc (fun _ _ _ _ _ _ us hl => match us, hl with | [_, _], _ => rfl) ?_ fun cdv A outer s H vs Q E hr h => ?_
  · rintro vs H Q E ⟨x, T, n, rfl, _⟩
    rfl
  · obtain ⟨x, T, a, rfl, tr, ok, nd, q⟩ := h
    have room1 : (A.deeper (envOfC "Tree.lot" (defScope (inClass (top 33) 1)) s.heap.objs.size f cdv)).units + 1 < cLine := by have := hr.un; omega
    refine ⟨_, (pss_cons (ps_if (pt_cmp (pc_dnotin room1 (pv 1) (pe_fld (pv 0) rfl)))
        (pss_one (L2N.ps_raise rfl takesN (pmk_oexX N.oex N.init N.initT (ok_initS N) (hr.mono (by decide)) bI C8.pass0 (by rfl) N.gB (pa_cons (pv 1) pa_nil))))
        pss_nil)
      (pss_one (ps_ret (pe_dget room1 (pe_fld (pv 0) rfl) (pv 1) (fun _ _ => rfl))))), ?_⟩
    obtain ⟨dx, lv, nn, d, lo, ab, hx, hlv, hnn, hd, hlo, hab⟩ := tr
    simp only [L2.start, cxOf, tRet, tAndV, tOrV, tNotV, tCB, tCons, tNil, tVar, tC, tOp, tUn, tTest, tB, tIf, tIfS, tSeq, tAsg, tAnd, tOr, tNot, gName, tNext, tCall, tChain, rI, rI0, rEq, rNe, rGcd, rU, tM1, tM0, tSl, tPart, tNoPart, gTup, gCons, gNil, gSub, tTup, tLst, tPar, L2.rI, List.map_cons, List.map_nil, List.length_cons, List.length_nil, List.cons_append, List.nil_append, List.append_nil, List.getElem?_cons_zero, List.getElem?_cons_succ, List.set_cons_zero, List.set_cons_succ, Option.some.injEq, exists_eq_left, exists_eq_left', exists_eq_right, exists_and_left, exists_and_right, List.cons.injEq, and_true, true_and, V.int.injEq, V.str.injEq, V.bl.injEq, V.ref.injEq, List.replicate, Nat.reduceAdd, Nat.reduceSub, reduceCtorEq, false_and, and_false, if_true, if_false, Bool.false_eq_true, Bool.not_true, Bool.not_false, decide_eq_true_eq, exists_false, or_false, false_or, tDNotIn, tFld, tDGet]
    refine ⟨_, _, _, hx, tc.cls, tc.fld _ (by decide), _, rfl, lo, rfl, ?_⟩
    rcases q with ⟨n, hn, rfl, q⟩ | ⟨no, q⟩
    · obtain ⟨kvs, t, hk, hv, ht⟩ := hlo.get (keys_nd ok nd) hn
      refine ⟨some (.ref t), hv ▸ DGet.k (k := keyS n) hk, ?_⟩
      rw [if_neg (by simp)]
      exact ⟨_, _, _, hx, tc.cls, tc.fld _ (by decide), _, rfl, lo, rfl, .ref t, hv ▸ DGet.k (k := keyS n) hk, q t ht⟩
    · obtain ⟨kvs, hk, e⟩ := lots_keys hlo
      have hv := key_no e no
      refine ⟨none, hv ▸ DGet.k (k := .inr (S a)) hk, ?_⟩
      rw [if_pos (by simp)]
      exact mk_raised (fun R k => ⟨_, rfl, k⟩) q
theorem scH : FnScope ["self", "node"] ["self", "node"] (defScope (inClass (top 33) 3)) := fnScope_by (by decide +kernel)
def spHalves (C CN : Addr) : Sp := fun vs H Q E => ∃ x T a, vs = [.ref x, .str (S a)] ∧ TreeAt C H x T ∧ P20.Ok T ∧ (P20.leaves T).Nodup ∧
  NodeOf T a (Raised CN "name" (.str (S a)) H E) fun n => ∀ v, HalfOf H n v → Q v H
theorem ok_halves (tc : Tc K mg) (me : Meth K (cT K) "halves" f) (N : NoS K mg CN fN fdN) (F : Mt K "halves" "Tree.halves" 33 3 f fd) : MetN P w K mg base 3 (cT K) "halves" (spHalves (cT K) CN) := by
  have sc := scH
  have bI : Binds K fdN ["self", "name"] [] := N.F.bindsN fun _ _ _ _ _ _ us hl => match us, hl with | [_, _], _ => rfl
  refine metN tc.cls me F sc (fun _ _ _ _ _ _ us hl => match us, hl with | [_, _], _ => rfl) ?_ fun cdv A outer s H vs Q E hr h => ?_
  · rintro vs H Q E ⟨x, T, n, rfl, _⟩
    rfl
  · obtain ⟨x, T, a, rfl, tr, ok, nd, q⟩ := h
    have room1 : (A.deeper (envOfC "Tree.halves" (defScope (inClass (top 33) 3)) s.heap.objs.size f cdv)).units + 1 < cLine := by have := hr.un; omega
    refine ⟨_, (pss_cons (ps_if (pt_cmp (pc_dnotin room1 (pv 1) (pe_fld (pv 0) rfl)))
        (pss_one (L2N.ps_raise rfl takesN (pmk_oexX N.oex N.init N.initT (ok_initS N) (hr.mono (by decide)) bI C8.pass0 (by rfl) N.gB (pa_cons (pv 1) pa_nil))))
        pss_nil)
      (pss_one (ps_ret (pe_dget room1 (pe_fld (pv 0) rfl) (pv 1) (fun _ _ => rfl))))), ?_⟩
    obtain ⟨dx, lv, nn, d, lo, ab, hx, hlv, hnn, hd, hlo, hab⟩ := tr
    simp only [L2.start, cxOf, tRet, tAndV, tOrV, tNotV, tCB, tCons, tNil, tVar, tC, tOp, tUn, tTest, tB, tIf, tIfS, tSeq, tAsg, tAnd, tOr, tNot, gName, tNext, tCall, tChain, rI, rI0, rEq, rNe, rGcd, rU, tM1, tM0, tSl, tPart, tNoPart, gTup, gCons, gNil, gSub, tTup, tLst, tPar, L2.rI, List.map_cons, List.map_nil, List.length_cons, List.length_nil, List.cons_append, List.nil_append, List.append_nil, List.getElem?_cons_zero, List.getElem?_cons_succ, List.set_cons_zero, List.set_cons_succ, Option.some.injEq, exists_eq_left, exists_eq_left', exists_eq_right, exists_and_left, exists_and_right, List.cons.injEq, and_true, true_and, V.int.injEq, V.str.injEq, V.bl.injEq, V.ref.injEq, List.replicate, Nat.reduceAdd, Nat.reduceSub, reduceCtorEq, false_and, and_false, if_true, if_false, Bool.false_eq_true, Bool.not_true, Bool.not_false, decide_eq_true_eq, exists_false, or_false, false_or, tDNotIn, tFld, tDGet]
    refine ⟨_, _, _, hx, tc.cls, tc.fld _ (by decide), _, rfl, d, rfl, ?_⟩
    rcases q with ⟨n, hn, rfl, q⟩ | ⟨no, q⟩
    · obtain ⟨kvs, v, hk, hv, hh⟩ := hd.get ok nd hn
      refine ⟨some v, hv ▸ DGet.k (k := keyS n) hk, ?_⟩
      rw [if_neg (by simp)]
      exact ⟨_, _, _, hx, tc.cls, tc.fld _ (by decide), _, rfl, d, rfl, v, hv ▸ DGet.k (k := keyS n) hk, q v hh⟩
    · obtain ⟨kvs, hk, e⟩ := halves_keys hd
      have hv := key_no e no
      refine ⟨none, hv ▸ DGet.k (k := .inr (S a)) hk, ?_⟩
      rw [if_pos (by simp)]
      exact mk_raised (fun R k => ⟨_, rfl, k⟩) q
theorem scAb : FnScope ["self", "node"] ["self", "node"] (defScope (inClass (top 33) 4)) := fnScope_by (by decide +kernel)
def spAbove (C CN : Addr) : Sp := fun vs H Q E => ∃ x T a, vs = [.ref x, .str (S a)] ∧ TreeAt C H x T ∧ P20.Ok T ∧ (P20.leaves T).Nodup ∧
  NodeOf T a (Raised CN "name" (.str (S a)) H E) fun n => Q ((valV (aboveK (P20.nodes T)) (keyS n)).getD .non) H
theorem ok_aboveF (tc : Tc K mg) (N : NoS K mg CN fN fdN) (F : Mt K "above" "Tree.above" 33 4 f fd) : FnOk P w K mg base (L2N.CX P w) 3 f fd ["self", "node"] (spAbove (cT K) CN) := by
  have sc := scAb
  have bI : Binds K fdN ["self", "name"] [] := N.F.bindsN fun _ _ _ _ _ _ us hl => match us, hl with | [_, _], _ => rfl
  refine F.ok sc ?_ fun cdv A outer s H vs Q E hr h => ?_
  · rintro vs H Q E ⟨x, T, n, rfl, _⟩
    rfl
  · obtain ⟨x, T, a, rfl, tr, ok, nd, q⟩ := h
    have room1 : (A.deeper (envOfC "Tree.above" (defScope (inClass (top 33) 4)) s.heap.objs.size f cdv)).units + 1 < cLine := by have := hr.un; omega
    refine ⟨_, (pss_cons (ps_if (pt_cmp (pc_dnotin room1 (pv 1) (pe_fld (pv 0) rfl)))
        (pss_one (L2N.ps_raise rfl takesN (pmk_oexX N.oex N.init N.initT (ok_initS N) (hr.mono (by decide)) bI C8.pass0 (by rfl) N.gB (pa_cons (pv 1) pa_nil))))
        pss_nil)
      (pss_one (ps_ret (pe_dget1 room1 (pe_fld (pv 0) rfl) (pv 1) ⟨by rfl, by rfl, by rfl, by rfl⟩)))), ?_⟩
    obtain ⟨dx, lv, nn, d, lo, ab, hx, hlv, hnn, hd, hlo, hab⟩ := tr
    simp only [L2.start, cxOf, tRet, tAndV, tOrV, tNotV, tCB, tCons, tNil, tVar, tC, tOp, tUn, tTest, tB, tIf, tIfS, tSeq, tAsg, tAnd, tOr, tNot, gName, tNext, tCall, tChain, rI, rI0, rEq, rNe, rGcd, rU, tM1, tM0, tSl, tPart, tNoPart, gTup, gCons, gNil, gSub, tTup, tLst, tPar, L2.rI, List.map_cons, List.map_nil, List.length_cons, List.length_nil, List.cons_append, List.nil_append, List.append_nil, List.getElem?_cons_zero, List.getElem?_cons_succ, List.set_cons_zero, List.set_cons_succ, Option.some.injEq, exists_eq_left, exists_eq_left', exists_eq_right, exists_and_left, exists_and_right, List.cons.injEq, and_true, true_and, V.int.injEq, V.str.injEq, V.bl.injEq, V.ref.injEq, List.replicate, Nat.reduceAdd, Nat.reduceSub, reduceCtorEq, false_and, and_false, if_true, if_false, Bool.false_eq_true, Bool.not_true, Bool.not_false, decide_eq_true_eq, exists_false, or_false, false_or, tDNotIn, tFld, tDGet, tDGet1]
    refine ⟨_, _, _, hx, tc.cls, tc.fld _ (by decide), _, rfl, d, rfl, ?_⟩
    rcases q with ⟨n, hn, rfl, q⟩ | ⟨no, q⟩
    · obtain ⟨kvs, v, hk, hv, hh⟩ := hd.get ok nd hn
      refine ⟨some v, hv ▸ DGet.k (k := keyS n) hk, ?_⟩
      rw [if_neg (by simp)]
      refine ⟨_, _, _, hx, tc.cls, tc.fld _ (by decide), _, rfl, ab, rfl, ?_⟩
      exact ⟨.inl ⟨_, .inl hab⟩, _, DGet.k (k := keyS n) hab, q⟩
    · obtain ⟨kvs, hk, e⟩ := halves_keys hd
      have hv := key_no e no
      refine ⟨none, hv ▸ DGet.k (k := .inr (S a)) hk, ?_⟩
      rw [if_pos (by simp)]
      exact mk_raised (fun R k => ⟨_, rfl, k⟩) q
theorem scRe : FnScope ["self", "node", "lot", "leaf"] ["self", "node"] (defScope (inClass (top 33) 2)) := fnScope_by (by decide +kernel)
def spRest (C CN : Addr) : Sp := fun vs H Q E => ∃ x T a, vs = [.ref x, .str (S a)] ∧ TreeAt C H x T ∧ P20.Ok T ∧ (P20.leaves T).Nodup ∧ (P20.leaves T).length ≤ 24 ∧
  NodeOf T a (Raised CN "name" (.str (S a)) H E) fun n => ∀ H' t, Same H H' → H t = none → H' t = some (.tup (wV ((P20.leaves T).filter fun u => decide (u ∉ P20.leaves n)))) → Q (.ref t) H'
theorem ok_rest (m : Mg K mg) (tc : Tc K mg) (me : Meth K (cT K) "rest" f) (c_lot : MetN P w K mg base 3 (cT K) "lot" (spLot (cT K) CN)) (F : Mt K "rest" "Tree.rest" 33 2 f fd) : MetN P w K mg base 4 (cT K) "rest" (spRest (cT K) CN) := by
  have sc := scRe
  refine metN tc.cls me F sc (fun _ _ _ _ _ _ us hl => match us, hl with | [_, _], _ => rfl) ?_ fun cdv A outer s H vs Q E hr h => ?_
  · rintro vs H Q E ⟨x, T, n, rfl, _⟩
    rfl
  · obtain ⟨x, T, a, rfl, tr, ok, nd, few, q⟩ := h
    refine ⟨_, (pss_cons (ps_set (i := 2) sc.nd rfl (.inr rfl) (pe_mtN c_lot hr (by decide) takesN (pv 0) (pa_cons (pv 1) pa_nil)))
      (pss_one (ps_ret (pe_callTy call_tuple_of (by rfl) m.tuple_ boot_tuple (pa_cons (pe_lc (own := [("leaf", 3)]) (g := gName 3) (by rfl) sc.nd (pi_tup (pe_fld (pv 0) rfl)) (blkOk_by (own := [("leaf", 3)]) (N := ["self", "node", "lot", "leaf"]) (sc := defScope (inClass (top 33) 2)) (by decide +kernel)) (fun _ _ _ _ _ => pg_name (i := 3) sc.nd rfl (.inl rfl)) (fun _ _ _ _ _ => pts_one (pt_cmpR (show OpR _ (compareOp .NotIn) (rIn K true) from op_notIn_seq) (pv 3) (pv 2) rfl)) (fun _ _ _ _ _ => pv 3)) pa_nil))))), ?_⟩
    obtain ⟨dx, lv, nn, d, lo, ab, hx, hlv, hnn, hd, hlo, hab⟩ := id tr
    simp only [L2.start, cxOf, tRet, tAndV, tOrV, tNotV, tCB, tCons, tNil, tVar, tC, tOp, tUn, tTest, tB, tIf, tIfS, tSeq, tAsg, tAnd, tOr, tNot, gName, tNext, tCall, tChain, rI, rI0, rEq, rNe, rGcd, rU, tM1, tM0, tSl, tPart, tNoPart, gTup, gCons, gNil, gSub, tTup, tLst, tPar, L2.rI, List.map_cons, List.map_nil, List.length_cons, List.length_nil, List.cons_append, List.nil_append, List.append_nil, List.getElem?_cons_zero, List.getElem?_cons_succ, List.set_cons_zero, List.set_cons_succ, Option.some.injEq, exists_eq_left, exists_eq_left', exists_eq_right, exists_and_left, exists_and_right, List.cons.injEq, and_true, true_and, V.int.injEq, V.str.injEq, V.bl.injEq, V.ref.injEq, List.replicate, Nat.reduceAdd, Nat.reduceSub, reduceCtorEq, false_and, and_false, if_true, if_false, Bool.false_eq_true, Bool.not_true, Bool.not_false, decide_eq_true_eq, exists_false, or_false, false_or, tMethN, tFld]
    refine ⟨dx, _, hx, rfl, x, T, a, rfl, tr, ok, nd, ?_⟩
    rcases q with ⟨n, hn, rfl, q⟩ | ⟨no, q⟩
    · refine .inl ⟨n, hn, rfl, fun t ht => ?_⟩
      refine lc_tupl (l := lv) (xs := wV (P20.leaves T)) (fun R k => ?_) (sqT_of hlv) (fun _ => rfl) fun D hD => ⟨fun i H' => Same H H' ∧ H' D = some (.lst (wV (((P20.leaves T).take i).filter fun u => decide (u ∉ P20.leaves n)))), ⟨same_new hD, upd_same⟩, fun i H' hi h => sqT_of (h.1 _ _ hlv), fun i z H' hz ⟨sH, hDD⟩ => ?_, fun H' ⟨sH, hDD⟩ => ?_⟩
      · simp only [tFld, L2.start, cxOf, tRet, tAndV, tOrV, tNotV, tCB, tCons, tNil, tVar, tC, tOp, tUn, tTest, tB, tIf, tIfS, tSeq, tAsg, tAnd, tOr, tNot, gName, tNext, tCall, tChain, rI, rI0, rEq, rNe, rGcd, rU, tM1, tM0, tSl, tPart, tNoPart, gTup, gCons, gNil, gSub, tTup, tLst, tPar, L2.rI, List.map_cons, List.map_nil, List.length_cons, List.length_nil, List.cons_append, List.nil_append, List.append_nil, List.getElem?_cons_zero, List.getElem?_cons_succ, List.set_cons_zero, List.set_cons_succ, Option.some.injEq, exists_eq_left, exists_eq_left', exists_eq_right, exists_and_left, exists_and_right, List.cons.injEq, and_true, true_and, V.int.injEq, V.str.injEq, V.bl.injEq, V.ref.injEq, List.replicate, Nat.reduceAdd, Nat.reduceSub, reduceCtorEq, false_and, and_false, if_true, if_false, Bool.false_eq_true, Bool.not_true, Bool.not_false, decide_eq_true_eq, exists_false, or_false, false_or]
        exact ⟨_, _, _, hx, tc.cls, tc.fld _ (by decide), _, rfl, k⟩
      · rw [List.getElem?_map] at hz
        obtain ⟨u, hu, rfl⟩ := Option.map_eq_some_iff.mp hz
        have li : i < (P20.leaves T).length := (List.getElem?_eq_some_iff.mp hu).1
        have tk : (P20.leaves T).take (i + 1) = (P20.leaves T).take i ++ [u] := by rw [List.take_succ, hu]; rfl
        unfold tTest tOp tVar
        refine ⟨_, rfl, _, rfl, rin_wordsT (sH _ _ ht) ⟨_, rfl, ?_⟩⟩
        dsimp only
        have fl := List.length_filter_le (fun u => decide (u ∉ P20.leaves n)) ((P20.leaves T).take i)
        rw [List.length_take] at fl
        have szl := sizeLine_eq
        by_cases c : u ∈ P20.leaves n
        · rw [if_neg (by simp [c])]
          refine ⟨sH, ?_⟩
          rw [hDD, tk, List.filter_append]
          simp [c]
        · rw [if_pos (by simp [c])]
          refine ⟨_, rfl, _, hDD, by rw [List.length_map]; omega, fun b u' e => ?_, ?_⟩
          · rw [upd_ne (ne_of_none e hD)]
            exact sH _ _ e
          · rw [upd_same, tk, List.filter_append]
            simp [c]
      · rw [List.length_map, List.take_length] at hDD
        exact ⟨D, rfl, _, .inl ⟨SqL.of hDD, fun l hl => q _ l (Same.trans sH (same_new hl)) (L2.Same.free (H := H) sH hl) upd_same⟩⟩
    · exact .inr ⟨no, q⟩
theorem scLen : FnScope ["self"] ["self"] (defScope (inClass (top 33) 6)) := fnScope_by (by decide +kernel)
def spTLen (C : Addr) : Sp := fun vs H Q _ => ∃ x T, vs = [.ref x] ∧ TreeAt C H x T ∧ Q (.int ((P20.leaves T).length : Int)) H
theorem ok_len (m : Mg K mg) (tc : Tc K mg) (F : Mt K "__len__" "Tree.__len__" 33 6 f fd) : FnOk P w K mg base C8.CX0 1 f fd ["self"] (spTLen (cT K)) := by
  have sc := scLen
  refine F.ok sc (fun vs H Q E h => ?_) fun cdv A outer s H vs Q E hr h => ?_
  · obtain ⟨x, T, rfl, _⟩ := h
    rfl
  · obtain ⟨x, T, rfl, tr, q⟩ := h
    refine ⟨_, (pss_one (ps_ret (pe_callB call_len (by rfl) m.len_ boot_len (pa_cons (pe_fld (pv 0) rfl) pa_nil)))), ?_⟩
    obtain ⟨dx, lv, nn, d, lo, ab, hx, hlv, hnn, hd, hlo, hab⟩ := tr
    simp only [L2.start, cxOf, tRet, tAndV, tOrV, tNotV, tCB, tCons, tNil, tVar, tC, tOp, tUn, tTest, tB, tIf, tIfS, tSeq, tAsg, tAnd, tOr, tNot, gName, tNext, tCall, tChain, rI, rI0, rEq, rNe, rGcd, rU, tM1, tM0, tSl, tPart, tNoPart, gTup, gCons, gNil, gSub, tTup, tLst, tPar, L2.rI, List.map_cons, List.map_nil, List.length_cons, List.length_nil, List.cons_append, List.nil_append, List.append_nil, List.getElem?_cons_zero, List.getElem?_cons_succ, List.set_cons_zero, List.set_cons_succ, Option.some.injEq, exists_eq_left, exists_eq_left', exists_eq_right, exists_and_left, exists_and_right, List.cons.injEq, and_true, true_and, V.int.injEq, V.str.injEq, V.bl.injEq, V.ref.injEq, List.replicate, Nat.reduceAdd, Nat.reduceSub, reduceCtorEq, false_and, and_false, if_true, if_false, Bool.false_eq_true, Bool.not_true, Bool.not_false, decide_eq_true_eq, exists_false, or_false, false_or, tFld]
    refine ⟨_, _, _, hx, tc.cls, tc.fld _ (by decide), _, rfl, _, len_T hlv, ?_⟩
    rw [List.length_map]
    exact q
theorem scIter : FnScope ["self"] ["self"] (defScope (inClass (top 33) 7)) := fnScope_by (by decide +kernel)
def spTIter (C : Addr) : Sp := fun vs H Q _ => ∃ x T, vs = [.ref x] ∧ TreeAt C H x T ∧ ∀ nn it, (∃ dx fs, H x = some (.ins C dx fs) ∧ fs.lookup ("nodes" : Str) = some (.ref nn)) → H it = none → Q (.ref it) (upd H it (ItT nn it 0))
theorem ok_iter (m : Mg K mg) (tc : Tc K mg) (F : Mt K "__iter__" "Tree.__iter__" 33 7 f fd) : FnOk P w K mg base C8.CX0 1 f fd ["self"] (spTIter (cT K)) := by
  have sc := scIter
  refine F.ok sc (fun vs H Q E h => ?_) fun cdv A outer s H vs Q E hr h => ?_
  · obtain ⟨x, T, rfl, _⟩ := h
    rfl
  · obtain ⟨x, T, rfl, tr, q⟩ := h
    refine ⟨_, (pss_one (ps_ret (pe_callB call_iterT (by rfl) m.iter_ boot_iter (pa_cons (pe_fld (pv 0) rfl) pa_nil)))), ?_⟩
    obtain ⟨dx, lv, nn, d, lo, ab, hx, hlv, hnn, hd, hlo, hab⟩ := tr
    simp only [L2.start, cxOf, tRet, tAndV, tOrV, tNotV, tCB, tCons, tNil, tVar, tC, tOp, tUn, tTest, tB, tIf, tIfS, tSeq, tAsg, tAnd, tOr, tNot, gName, tNext, tCall, tChain, rI, rI0, rEq, rNe, rGcd, rU, tM1, tM0, tSl, tPart, tNoPart, gTup, gCons, gNil, gSub, tTup, tLst, tPar, L2.rI, List.map_cons, List.map_nil, List.length_cons, List.length_nil, List.cons_append, List.nil_append, List.append_nil, List.getElem?_cons_zero, List.getElem?_cons_succ, List.set_cons_zero, List.set_cons_succ, Option.some.injEq, exists_eq_left, exists_eq_left', exists_eq_right, exists_and_left, exists_and_right, List.cons.injEq, and_true, true_and, V.int.injEq, V.str.injEq, V.bl.injEq, V.ref.injEq, List.replicate, Nat.reduceAdd, Nat.reduceSub, reduceCtorEq, false_and, and_false, if_true, if_false, Bool.false_eq_true, Bool.not_true, Bool.not_false, decide_eq_true_eq, exists_false, or_false, false_or, tFld, rIterT]
    exact ⟨_, _, _, hx, tc.cls, tc.fld _ (by decide), _, rfl, nn, rfl, ⟨_, sqT_of hnn⟩, fun it hit => q nn it ⟨dx, _, hx, rfl⟩ hit⟩
theorem scEq : FnScope ["self", "other"] ["self", "other"] (defScope (inClass (top 33) 5)) := fnScope_by (by decide +kernel)
/-- == with any other -/
def spEqA (K : PySem.W.Frag) (C : Addr) : Sp := fun vs H Q _ => ∃ a y T, vs = [.ref a, y] ∧ TreeAt C H a T ∧ ((∃ b U, y = .ref b ∧ TreeAt C H b U ∧ Q (.bl (decide (P20.spell T = P20.spell U))) H) ∨
  ∃ t ∈ (["str", "tuple", "int"] : List String), TyX K H y (.type t) ∧ Q (.bl false) H)
theorem ok_eq (m : Mg K mg) (tc : Tc K mg) (ti : Ti K) (F : Mt K "__eq__" "Tree.__eq__" 33 5 f fd) : FnOk P w K mg base C8.CX0 1 f fd ["self", "other"] (spEqA K (cT K)) := by
  have sc := scEq
  refine F.ok sc (fun vs H Q E h => ?_) fun cdv A outer s H vs Q E hr h => ?_
  · obtain ⟨a, b, T, rfl, _⟩ := h
    rfl
  · obtain ⟨a, y, T, rfl, ta, alt⟩ := h
    refine ⟨_, (pss_cons (ps_if (pt_not (pt_val (pe_callB call_isi (by rfl) m.isinstance_ boot_isinstance (pa_cons (pv 1) (pa_cons (pe_gc (v := .ref (cT K)) (by rfl) ⟨_, tc.glo, rfl⟩) pa_nil)))))
        (pss_one (ps_ret pe_bl))
        pss_nil)
      (pss_one (ps_ret (pe_cmpR op_eq (pe_fld (pv 0) rfl) (pe_fld (pv 1) rfl) (nomark _))))), ?_⟩
    obtain ⟨dx, lv, nn, d, lo, ab, hx, _⟩ := ta
    simp only [L2.start, cxOf, tRet, tAndV, tOrV, tNotV, tCB, tCons, tNil, tVar, tC, tOp, tUn, tTest, tB, tIf, tIfS, tSeq, tAsg, tAnd, tOr, tNot, gName, tNext, tCall, tChain, rI, rI0, rEq, rNe, rGcd, rU, tM1, tM0, tSl, tPart, tNoPart, gTup, gCons, gNil, gSub, tTup, tLst, tPar, L2.rI, List.map_cons, List.map_nil, List.length_cons, List.length_nil, List.cons_append, List.nil_append, List.append_nil, List.getElem?_cons_zero, List.getElem?_cons_succ, List.set_cons_zero, List.set_cons_succ, Option.some.injEq, exists_eq_left, exists_eq_left', exists_eq_right, exists_and_left, exists_and_right, List.cons.injEq, and_true, true_and, V.int.injEq, V.str.injEq, V.bl.injEq, V.ref.injEq, List.replicate, Nat.reduceAdd, Nat.reduceSub, reduceCtorEq, false_and, and_false, if_true, if_false, Bool.false_eq_true, Bool.not_true, Bool.not_false, decide_eq_true_eq, exists_false, or_false, false_or, tFld]
    rcases alt with ⟨b, U, rfl, tb, q⟩ | ⟨t, ht, ty, q⟩
    · obtain ⟨dx2, lv2, nn2, d2, lo2, ab2, hx2, _⟩ := tb
      refine ⟨V.ref b, V.ref (cT K), .ref (cT K), .ref (cT K), true, rfl, .own _, .base (.ins hx2 tc.cls ti.cl ti.hn ti.tk ti.mo), ti.me, ?_⟩
      refine ⟨true, rfl, ?_⟩
      rw [if_neg (by simp)]
      refine ⟨_, _, _, hx, tc.cls, tc.fld _ (by decide), _, rfl, b, rfl, _, _, _, hx2, tc.cls, tc.fld _ (by decide), _, rfl, rfl, ?_⟩
      have e : decide (spV T = spV U) = decide (P20.spell T = P20.spell U) := by
        rw [Bool.eq_iff_iff, decide_eq_true_eq, decide_eq_true_eq]
        exact ⟨fun z => SX.S_inj (V.str.inj z), fun z => by rw [spV, spV, z]⟩
      rw [e]
      exact q
    · refine ⟨y, V.ref (cT K), .type t, .ref (cT K), false, rfl, .own _, ty, (ti.no t ht).1, ?_⟩
      refine ⟨false, rfl, ?_⟩
      rw [if_pos (by simp)]
      exact q
theorem scRp : FnScope ["self"] ["self"] (defScope (inClass (top 33) 8)) := fnScope_by (by decide +kernel)
def spRepr (C : Addr) : Sp := fun vs H Q _ => ∃ x T, vs = [.ref x] ∧ TreeAt C H x T ∧ (P20.spell T).length ≤ 100000 ∧ Q (.str (S ([84, 114, 101, 101, 40] ++ P20.spell T ++ [41]))) H
theorem ok_repr (dk : DigK K) (tc : Tc K mg) (F : Mt K "__repr__" "Tree.__repr__" 33 8 f fd) : FnOk P w K mg base C8.CX0 1 f fd ["self"] (spRepr (cT K)) := by
  have sc := scRp
  refine F.ok sc (fun vs H Q E h => ?_) fun cdv A outer s H vs Q E hr h => ?_
  · obtain ⟨x, T, rfl, _⟩ := h
    rfl
  · obtain ⟨x, T, rfl, tr, sl, q⟩ := h
    refine ⟨_, PSs.nox (pss_one (ps_ret (pe_joined (.cons pe_str (.cons (pe_fmtB rfl dk (pe_fld (pv 0) rfl)) (.cons pe_str PJ.nil)))))), ?_⟩
    obtain ⟨dx, lv, nn, d, lo, ab, hx, hlv, hnn, hd, hlo, hab⟩ := tr
    simp only [L2.start, cxOf, tRet, tAndV, tOrV, tNotV, tCB, tCons, tNil, tVar, tC, tOp, tUn, tTest, tB, tIf, tIfS, tSeq, tAsg, tAnd, tOr, tNot, gName, tNext, tCall, tChain, rI, rI0, rEq, rNe, rGcd, rU, tM1, tM0, tSl, tPart, tNoPart, gTup, gCons, gNil, gSub, tTup, tLst, tPar, L2.rI, List.map_cons, List.map_nil, List.length_cons, List.length_nil, List.cons_append, List.nil_append, List.append_nil, List.getElem?_cons_zero, List.getElem?_cons_succ, List.set_cons_zero, List.set_cons_succ, Option.some.injEq, exists_eq_left, exists_eq_left', exists_eq_right, exists_and_left, exists_and_right, List.cons.injEq, and_true, true_and, V.int.injEq, V.str.injEq, V.bl.injEq, V.ref.injEq, List.replicate, Nat.reduceAdd, Nat.reduceSub, reduceCtorEq, false_and, and_false, if_true, if_false, Bool.false_eq_true, Bool.not_true, Bool.not_false, decide_eq_true_eq, exists_false, or_false, false_or]
    refine js_all (acc := []) (ys := [[84, 114, 101, 101, 40], P20.spell T, [41]]) ⟨piece_c (by decide +kernel), piece_f (by omega) fun R k => ?_, piece_c (by decide +kernel), trivial⟩ ?_ ?_
    · simp only [tFld, L2.start, cxOf, tRet, tAndV, tOrV, tNotV, tCB, tCons, tNil, tVar, tC, tOp, tUn, tTest, tB, tIf, tIfS, tSeq, tAsg, tAnd, tOr, tNot, gName, tNext, tCall, tChain, rI, rI0, rEq, rNe, rGcd, rU, tM1, tM0, tSl, tPart, tNoPart, gTup, gCons, gNil, gSub, tTup, tLst, tPar, L2.rI, List.map_cons, List.map_nil, List.length_cons, List.length_nil, List.cons_append, List.nil_append, List.append_nil, List.getElem?_cons_zero, List.getElem?_cons_succ, List.set_cons_zero, List.set_cons_succ, Option.some.injEq, exists_eq_left, exists_eq_left', exists_eq_right, exists_and_left, exists_and_right, List.cons.injEq, and_true, true_and, V.int.injEq, V.str.injEq, V.bl.injEq, V.ref.injEq, List.replicate, Nat.reduceAdd, Nat.reduceSub, reduceCtorEq, false_and, and_false, if_true, if_false, Bool.false_eq_true, Bool.not_true, Bool.not_false, decide_eq_true_eq, exists_false, or_false, false_or]
      exact ⟨_, _, _, hx, tc.cls, tc.fld _ (by decide), _, rfl, k⟩
    · simp
      omega
    · have e : ([] : List Nat) ++ [[84, 114, 101, 101, 40], P20.spell T, [41]].flatten = [84, 114, 101, 101, 40] ++ P20.spell T ++ [41] := by simp
      rw [e]
      exact q
end
end W20

set_option Elab.async false
set_option linter.all false
set_option maxRecDepth 100000
set_option maxHeartbeats 4000000
/-! CO20: comb_of -/
namespace P20
open Tr
/-- the comb over names, the first two deepest -/
def combL : List Wd → Tr
  | [] => leaf []
  | w :: r => r.foldl (fun t u => node t (leaf u)) (leaf w)
theorem comb_leaves : ∀ (r : List Wd) (t : Tr), leaves (r.foldl (fun t u => node t (leaf u)) t) = leaves t ++ r
  | [], t => by simp
  | u :: r, t => by
    rw [List.foldl_cons, comb_leaves r]
    simp [leaves]
theorem combL_leaves {ws : List Wd} (h : ws ≠ []) : leaves (combL ws) = ws := by
  cases ws with
  | nil => exact absurd rfl h
  | cons w r =>
    rw [combL, comb_leaves]
    rfl
end P20
namespace W20
open PySem PySem.Spec PyProof.Rows L2 Lay
open SX (S S_len S_cat S_tl)
open C8 (Cal Mak Met pe_c pe_mk pe_gc fnScope_by E0)
/-- Tree(text), the text a tree's -/
theorem mk_tree {C CB CM : Addr} {T : P20.Tr} {a : List Nat} {H1 : Hp} {Qx : Addr → Hp → Prop} {E : XK} (ea : P20.words a = P20.toks T) (al : a.length ≤ 200000) (good : P20.Good nameB T) (nd : (P20.leaves T).Nodup) (few : (P20.leaves T).length ≤ 24)
    (k : ∀ H' x, Same H1 H' → H1 x = none → TreeAt C H' x T → Qx x H') :
    ∀ x dx, H1 x = none → H1 dx = none → dx ≠ x → spInit C CB CM [.ref x, .str (S a)] (upd (upd H1 dx (.own x)) x (.ins C dx [])) (fun v H2 => v = .non ∧ Qx x H2) E := fun x dx hx hdx ne => by
  have w8 : ∀ u ∈ P20.leaves T, u.length ≤ 8 := fun u hu => name_len (good u hu).1
  have sl := P20.spell_len w8
  have lp : 0 < (P20.leaves T).length := List.length_pos_iff.mpr (P20.leaves_pos T)
  have tl := P20.toks_len T
  refine ⟨x, dx, a, rfl, upd_same, al, by rw [ea]; omega, fun u hu => ?_, .inr ⟨T, ea, good, nd, ?_⟩⟩
  · rw [ea] at hu
    have := P20.tok_len hu lp
    omega
  · rw [if_pos few]
    exact fun H' kp tr => ⟨rfl, k H' x (fun b u hb => kp b u (ne_of_none hb hx) (by
      rw [upd_ne (ne_of_none hb hx), upd_ne (ne_of_none hb hdx)]
      exact hb)) hx tr⟩
theorem good_of {T : P20.Tr} (g : ∀ u ∈ P20.leaves T, nameB u = true) : P20.Good nameB T := fun u hu => ⟨g u hu, name_of (g u hu)⟩
section
variable {P : Program} {w : World} {K : PySem.W.Frag} {mg : Str → Option Value} {base : Heap} {f fB fM CB CM : Addr} {fd fdB fdM : FuncData}
theorem sd32 : FnScope ["things", "names", "name", "text"] ["things"] (defScope (top 32)) := fnScope_by (by decide +kernel)
def spComb (K : PySem.W.Frag) (C CB CM : Addr) : Sp := fun vs H Q E => ∃ t ws, vs = [.ref t] ∧ (SqL K H t (wV ws) ∨ SqT K H t (wV ws)) ∧ ws.length ≤ 100 ∧ (∀ u ∈ ws, u.length ≤ 1000 ∧ PyData.strOk (S u) = true) ∧
  ((ws = [] ∧ Raised CB "why" (.str ("no things" : Str)) H E) ∨
   (ws ≠ [] ∧ (¬ (∀ u ∈ ws, nameB u = true) ∨ ¬ ws.Nodup) ∧ Raised CB "why" (.str ("a name is no name or stands twice" : Str)) H E) ∨
   (ws ≠ [] ∧ (∀ u ∈ ws, nameB u = true) ∧ ws.Nodup ∧ if ws.length ≤ 24 then (∀ H' y, Same H H' → H y = none → TreeAt C H' y (P20.combL ws) → Q (.ref y) H') else RaisedX CM tooM H E))
theorem ok_comb (m : Mg K mg) (dk : DigK K) (tc : Tc K mg) (B : Bad K mg CB fB fdB) (M : TooM K mg CM fM fdM) (c_is_name : Cal P w K mg base 2 "is_name" (spVal nameB) []) (c_Tree : MakN P w K mg base 4 "Tree" (cT K) (spInit (cT K) CB CM))
    (F : Fn K "comb_of" 32 f fd) (g : mg "comb_of" = some (.ref f)) : CalN P w K mg base 6 "comb_of" (spComb K (cT K) CB CM) := by
  have sc := sd32
  have bI : Binds K fdB ["self", "why"] [] := B.F.bindsN fun _ _ _ _ _ _ us hl => match us, hl with | [_, _], _ => rfl
  have bM : Binds K fdM ["self", "what", "bound"] [] := M.F.bindsN fun _ _ _ _ _ _ us hl => match us, hl with | [_, _, _], _ => rfl
  refine calN F g sc (fun _ _ _ _ _ _ us hl => match us, hl with | [_], _ => rfl) ?_ fun cdv A outer s H vs Q E hr h => ?_
  · rintro vs H Q E ⟨t, ws, rfl, _⟩
    rfl
  · obtain ⟨t, ws, rfl, ht, lws, ow, alt⟩ := h
    have room64 : (A.deeper (envOfC "comb_of" (defScope (top 32)) s.heap.objs.size f cdv)).units + 64 < cLine := by have := hr.un; omega
    refine ⟨_, (pss_cons (ps_set (i := 1) sc.nd rfl (.inl rfl) (pe_callTy call_list_of (by rfl) m.list_ boot_list (pa_cons (pv 0) pa_nil)))
      (pss_cons (ps_if (pt_cmpR (op_eqD room64) (pv 1) (pe_lst pa_nil) (nomark _))
        (pss_one (L2N.ps_raise rfl takesN (pmk_oexN B.oex B.init B.initT (ok_initB B) (hr.mono (by decide)) bI C8.pass0 (by rfl) B.gB (pa_cons pe_str pa_nil))))
        pss_nil)
      (pss_cons (ps_if ((pw_or (pt_not (pt_val (pe_callB (cr_all rfl) (by rfl) m.all_ boot_all (pa_cons (pe_lc (own := [("name", 2)]) (g := gName 2) (by rfl) sc.nd (pi_list (pv 1)) (blkOk_by (own := [("name", 2)]) (N := ["things", "names", "name", "text"]) (sc := defScope (top 32)) (by decide +kernel)) (fun _ _ _ _ _ => pg_name (i := 2) sc.nd rfl (.inl rfl)) (fun _ _ _ _ _ => pts_nil) (fun _ _ _ _ _ => pe_c c_is_name hr (by decide) (by rfl) (pa_cons (pv 2) pa_nil))) pa_nil)))) (pw_or1 (pt_cmpR op_ne (pe_lenTexts rfl (by rfl) m.len_ (by rfl) m.set_ (pv 1)) (pe_callB call_len (by rfl) m.len_ boot_len (pa_cons (pv 1) pa_nil)) (nomark _))))).pt
        (pss_one (L2N.ps_raise rfl takesN (pmk_oexN B.oex B.init B.initT (ok_initB B) (hr.mono (by decide)) bI C8.pass0 (by rfl) B.gB (pa_cons pe_str pa_nil))))
        pss_nil)
      (pss_cons (ps_if (pt_cmpR op_gt (pe_callB call_len (by rfl) m.len_ boot_len (pa_cons (pv 1) pa_nil)) (pe_gc (v := .int 24) (by rfl) m.mostLeaves) (nomark _))
        (pss_one (L2N.ps_raise rfl takesN (pmk_oexN M.oex M.init M.initT (ok_initM M) (hr.mono (by decide)) bM C8.pass0 (by rfl) M.gB (pa_cons pe_str (pa_cons (pe_gc (v := .int 24) (by rfl) m.mostLeaves) pa_nil)))))
        pss_nil)
      (PSs.nox (pss_cons (ps_set (i := 3) sc.nd rfl (.inl rfl) (pe_ix ix_list (pv 1) pe_int (fun _ _ => rfl)))
      (pss_cons (ps_for pown rfl (pi_list (pe_slice sl_list (pv 1) (po_some pe_int) po_none)) (pg_name (i := 2) sc.nd rfl (.inl rfl))
        (pss_one (ps_set (i := 3) sc.nd rfl (.inl rfl) (pe_joined (.cons pe_str (.cons (pe_fmtB rfl dk (pv 3)) (.cons pe_str (.cons (pe_fmtB rfl dk (pv 2)) (.cons pe_str PJ.nil)))))))))
      (pss_one (ps_ret (pe_mkN0 c_Tree hr (by omega) (by rfl) (pa_cons (pv 3) pa_nil))))))))))), ?_⟩
    have szl := sizeLine_eq
    refine seq_cut (fun σ' H' => ∃ p, σ' = [some (.ref t), some (.ref p), none, none] ∧ Same H H' ∧ H' p = some (wordsV ws)) (fun D' hrt hn => ?_) ?_
    · simp only [L2.start, cxOf, tRet, tAndV, tOrV, tNotV, tCB, tCons, tNil, tVar, tC, tOp, tUn, tTest, tB, tIf, tIfS, tSeq, tAsg, tAnd, tOr, tNot, gName, tNext, tCall, tChain, rI, rI0, rEq, rNe, rGcd, rU, tM1, tM0, tSl, tPart, tNoPart, gTup, gCons, gNil, gSub, tTup, tLst, tPar, L2.rI, List.map_cons, List.map_nil, List.length_cons, List.length_nil, List.cons_append, List.nil_append, List.append_nil, List.getElem?_cons_zero, List.getElem?_cons_succ, List.set_cons_zero, List.set_cons_succ, Option.some.injEq, exists_eq_left, exists_eq_left', exists_eq_right, exists_and_left, exists_and_right, List.cons.injEq, and_true, true_and, V.int.injEq, V.str.injEq, V.bl.injEq, V.ref.injEq, List.replicate, Nat.reduceAdd, Nat.reduceSub, reduceCtorEq, false_and, and_false, if_true, if_false, Bool.false_eq_true, Bool.not_true, Bool.not_false, decide_eq_true_eq, exists_false, or_false, false_or]
      exact ⟨_, ht, fun l hl => hn _ _ ⟨l, rfl, same_new hl, upd_same⟩⟩
    rintro σ' H1 ⟨p, rfl, s1, hp⟩
    refine seq_cut (fun σ' H' => σ' = [some (.ref t), some (.ref p), none, none] ∧ Same H H' ∧ H' p = some (wordsV ws) ∧ ws ≠ []) (fun D' hrt hn => ?_) ?_
    · simp only [L2.start, cxOf, tRet, tAndV, tOrV, tNotV, tCB, tCons, tNil, tVar, tC, tOp, tUn, tTest, tB, tIf, tIfS, tSeq, tAsg, tAnd, tOr, tNot, gName, tNext, tCall, tChain, rI, rI0, rEq, rNe, rGcd, rU, tM1, tM0, tSl, tPart, tNoPart, gTup, gCons, gNil, gSub, tTup, tLst, tPar, L2.rI, List.map_cons, List.map_nil, List.length_cons, List.length_nil, List.cons_append, List.nil_append, List.append_nil, List.getElem?_cons_zero, List.getElem?_cons_succ, List.set_cons_zero, List.set_cons_succ, Option.some.injEq, exists_eq_left, exists_eq_left', exists_eq_right, exists_and_left, exists_and_right, List.cons.injEq, and_true, true_and, V.int.injEq, V.str.injEq, V.bl.injEq, V.ref.injEq, List.replicate, Nat.reduceAdd, Nat.reduceSub, reduceCtorEq, false_and, and_false, if_true, if_false, Bool.false_eq_true, Bool.not_true, Bool.not_false, decide_eq_true_eq, exists_false, or_false, false_or]
      refine ⟨small (by decide), fun r hr1 => eq_nilS (SqL.of (same_new hr1 _ _ hp)) upd_same (fun u hu => (ow u hu).2) ⟨_, rfl, ?_⟩⟩
      have s2 := s1.trans (same_new (o := .lst []) hr1)
      by_cases c : ws = []
      · rw [if_pos (by rw [c]; rfl)]
        rcases alt with ⟨_, ra⟩ | ⟨z, _⟩ | ⟨z, _⟩
        · exact mk_raised (fun R k => k) (ra.mono s2)
        · exact absurd c z
        · exact absurd c z
      · rw [if_neg (by simp [c])]
        exact hn _ _ ⟨rfl, s2, same_new hr1 _ _ hp, c⟩
    rintro σ' H2 ⟨rfl, s2, hp2, ne⟩
    replace alt := alt.resolve_left fun z => ne z.1
    refine seq_cut (fun σ' H' => σ' = [some (.ref t), some (.ref p), none, none] ∧ Same H H' ∧ H' p = some (wordsV ws) ∧ (∀ u ∈ ws, nameB u = true) ∧ ws.Nodup) (fun D' hrt hn => ?_) ?_
    · simp only [L2.start, cxOf, tRet, tAndV, tOrV, tNotV, tCB, tCons, tNil, tVar, tC, tOp, tUn, tTest, tB, tIf, tIfS, tSeq, tAsg, tAnd, tOr, tNot, gName, tNext, tCall, tChain, rI, rI0, rEq, rNe, rGcd, rU, tM1, tM0, tSl, tPart, tNoPart, gTup, gCons, gNil, gSub, tTup, tLst, tPar, L2.rI, List.map_cons, List.map_nil, List.length_cons, List.length_nil, List.cons_append, List.nil_append, List.append_nil, List.getElem?_cons_zero, List.getElem?_cons_succ, List.set_cons_zero, List.set_cons_succ, Option.some.injEq, exists_eq_left, exists_eq_left', exists_eq_right, exists_and_left, exists_and_right, List.cons.injEq, and_true, true_and, V.int.injEq, V.str.injEq, V.bl.injEq, V.ref.injEq, List.replicate, Nat.reduceAdd, Nat.reduceSub, reduceCtorEq, false_and, and_false, if_true, if_false, Bool.false_eq_true, Bool.not_true, Bool.not_false, decide_eq_true_eq, exists_false, or_false, false_or, tLenTexts]
      have lenS : (ws.map S).length = ws.length := List.length_map ..
      have bad : (¬ (∀ u ∈ ws, nameB u = true) ∨ ¬ ws.Nodup) → Raised CB "why" (.str ("a name is no name or stands twice" : Str)) H E := fun z => by
        rcases alt with ⟨_, _, ra⟩ | ⟨_, g1, g2, _⟩
        · exact ra
        · rcases z with z | z
          · exact absurd g1 z
          · exact absurd g2 z
      refine Lay.lc_list (K := K) (v := 2) (l := p) (xs := wV ws) (fun R h => ⟨_, rfl, h⟩) (SqL.of hp2) (fun x => rfl) fun D hD => ⟨fun i H' => Same H2 H' ∧ H' D = some (.lst (((ws.take i).map nameB).map V.bl)), ⟨same_new hD, upd_same⟩, fun i H' hi h => SqL.of (h.1 _ _ hp2), fun i z H' hz ⟨sH, hDD⟩ => ?_, fun H' ⟨sH, hDD⟩ => ?_⟩
      · rw [List.getElem?_map] at hz
        obtain ⟨u, hu, rfl⟩ := Option.map_eq_some_iff.mp hz
        have li : i < ws.length := (List.getElem?_eq_some_iff.mp hu).1
        have ou := (ow u (List.mem_of_getElem? hu)).1
        have tk : ws.take (i + 1) = ws.take i ++ [u] := by rw [List.take_succ, hu]; rfl
        unfold tYes tCall tCons tVar tNil
        dsimp only
        rw [if_pos rfl]
        refine ⟨_, rfl, ?_⟩
        show spVal nameB [_] _ _ _
        refine ⟨u, rfl, by omega, _, hDD, by rw [List.length_map, List.length_map, List.length_take]; omega, fun b u' e => ?_, ?_⟩
        · rw [upd_ne (ne_of_none e hD)]
          exact sH _ _ e
        · rw [upd_same, tk, List.map_append, List.map_append]
          rfl
      · rw [List.length_map, List.take_length] at hDD
        have s3 := s2.trans sH
        have hp3 := sH _ _ hp2
        refine ⟨D, _, rfl, SqL.of hDD, _, rfl, ?_⟩
        by_cases c : ∀ u ∈ ws, nameB u = true
        · have e : (ws.map nameB).all id = true := by
            rw [List.all_eq_true]
            intro b hb
            obtain ⟨u, hu, rfl⟩ := List.mem_map.mp hb
            exact c u hu
          rw [e, if_neg (by decide)]
          refine ⟨ws.map S, SqL.of (by rw [hp3, wordsV, List.map_map]; rfl), by rw [lenS]; omega, fun c1 h1 h2 => ⟨ws.length, ?_, rfl, ?_⟩⟩
          · have := len_L (K := K) (SqL.of (K := K) hp3)
            rw [List.length_map] at this
            exact this
          have nd : (ws.map S).Nodup ↔ ws.Nodup := by
            rw [List.nodup_iff_pairwise_ne, List.nodup_iff_pairwise_ne, List.pairwise_map]
            exact ⟨fun z => z.imp fun h e => h (by rw [e]), fun z => z.imp fun h e => h (SX.S_inj e)⟩
          rw [lenS, nd] at h2
          by_cases c2 : ws.Nodup
          · have : c1 = ws.length := h2.mpr c2
            rw [if_neg (by simp [this])]
            exact hn _ _ ⟨rfl, s3, hp3, c, c2⟩
          · have : c1 ≠ ws.length := fun z => c2 (h2.mp z)
            rw [if_pos (by simp; omega)]
            exact mk_raised (fun R k => k) ((bad (.inr c2)).mono s3)
        · have e : (ws.map nameB).all id = false := by
            rw [← Bool.not_eq_true, List.all_eq_true]
            intro z
            exact c fun u hu => z _ (List.mem_map_of_mem hu)
          rw [e, if_pos (by decide)]
          exact mk_raised (fun R k => k) ((bad (.inl c)).mono s3)
    rintro σ' H3 ⟨rfl, s3, hp3, good, nd⟩
    have alt : if ws.length ≤ 24 then (∀ H' y, Same H H' → H y = none → TreeAt (cT K) H' y (P20.combL ws) → Q (.ref y) H') else RaisedX CM tooM H E := by
      rcases alt with ⟨_, z, _⟩ | ⟨_, _, _, z⟩
      · rcases z with z | z
        · exact absurd good z
        · exact absurd nd z
      · exact z
    refine seq_cut (fun σ' H' => σ' = [some (.ref t), some (.ref p), none, none] ∧ H' = H3 ∧ ws.length ≤ 24) (fun D' hrt hn => ?_) ?_
    · simp only [L2.start, cxOf, tRet, tAndV, tOrV, tNotV, tCB, tCons, tNil, tVar, tC, tOp, tUn, tTest, tB, tIf, tIfS, tSeq, tAsg, tAnd, tOr, tNot, gName, tNext, tCall, tChain, rI, rI0, rEq, rNe, rGcd, rU, tM1, tM0, tSl, tPart, tNoPart, gTup, gCons, gNil, gSub, tTup, tLst, tPar, L2.rI, List.map_cons, List.map_nil, List.length_cons, List.length_nil, List.cons_append, List.nil_append, List.append_nil, List.getElem?_cons_zero, List.getElem?_cons_succ, List.set_cons_zero, List.set_cons_succ, Option.some.injEq, exists_eq_left, exists_eq_left', exists_eq_right, exists_and_left, exists_and_right, List.cons.injEq, and_true, true_and, V.int.injEq, V.str.injEq, V.bl.injEq, V.ref.injEq, List.replicate, Nat.reduceAdd, Nat.reduceSub, reduceCtorEq, false_and, and_false, if_true, if_false, Bool.false_eq_true, Bool.not_true, Bool.not_false, decide_eq_true_eq, exists_false, or_false, false_or]
      refine ⟨_, len_L (SqL.of hp3), ?_⟩
      rw [List.length_map]
      by_cases c : ws.length ≤ 24
      · rw [if_neg (by omega)]
        exact hn _ _ ⟨rfl, rfl, c⟩
      · rw [if_pos (by omega)]
        rw [if_neg c] at alt
        exact mk_raised2 (fun R k => k) (alt.mono s3)
    rintro σ' H4 ⟨rfl, rfl, few⟩
    rw [if_pos few] at alt
    obtain ⟨w0, wr, rfl⟩ : ∃ w0 wr, ws = w0 :: wr := by
      cases ws with
      | nil => exact absurd rfl ne
      | cons a b => exact ⟨a, b, rfl⟩
    have n8 : ∀ u ∈ w0 :: wr, u.length ≤ 8 := fun u hu => name_len (good u hu)
    refine seq_cut (fun σ' H' => σ' = [some (.ref t), some (.ref p), none, some (.str (S w0))] ∧ H' = H4) (fun D' hrt hn => ?_) ?_
    · simp only [L2.start, cxOf, tRet, tAndV, tOrV, tNotV, tCB, tCons, tNil, tVar, tC, tOp, tUn, tTest, tB, tIf, tIfS, tSeq, tAsg, tAnd, tOr, tNot, gName, tNext, tCall, tChain, rI, rI0, rEq, rNe, rGcd, rU, tM1, tM0, tSl, tPart, tNoPart, gTup, gCons, gNil, gSub, tTup, tLst, tPar, L2.rI, List.map_cons, List.map_nil, List.length_cons, List.length_nil, List.cons_append, List.nil_append, List.append_nil, List.getElem?_cons_zero, List.getElem?_cons_succ, List.set_cons_zero, List.set_cons_succ, Option.some.injEq, exists_eq_left, exists_eq_left', exists_eq_right, exists_and_left, exists_and_right, List.cons.injEq, and_true, true_and, V.int.injEq, V.str.injEq, V.bl.injEq, V.ref.injEq, List.replicate, Nat.reduceAdd, Nat.reduceSub, reduceCtorEq, false_and, and_false, if_true, if_false, Bool.false_eq_true, Bool.not_true, Bool.not_false, decide_eq_true_eq, exists_false, or_false, false_or]
      exact ixL (SqL.of hp3) 0 rfl (hn _ _ ⟨rfl, rfl⟩)
    rintro σ' H5 ⟨rfl, rfl⟩
    have hz : ∀ (r : List P20.Wd), (∀ u ∈ r, u.length ≤ 8) → (P20.spell (r.foldl (fun t u => P20.Tr.node t (.leaf u)) (.leaf w0))).length ≤ 8 + 11 * r.length := by
      have key : ∀ (r : List P20.Wd) (t : P20.Tr), (∀ u ∈ r, u.length ≤ 8) → (P20.spell (r.foldl (fun t u => P20.Tr.node t (.leaf u)) t)).length ≤ (P20.spell t).length + 11 * r.length := by
        intro r
        induction r with
        | nil => intro t _; simp
        | cons u r ih =>
          intro t h
          rw [List.foldl_cons]
          have h1 := ih (.node t (.leaf u)) fun v hv => h v (List.mem_cons_of_mem _ hv)
          have h2 := h u List.mem_cons_self
          simp only [P20.spell, List.length_cons, List.length_append, List.length_nil] at h1 ⊢
          omega
      intro r h
      have := key r (.leaf w0) h
      have h0 := n8 w0 List.mem_cons_self
      have e : (P20.spell (.leaf w0)).length = w0.length := rfl
      omega
    refine seq_cut (fun σ' H' => ∃ y2, σ' = [some (.ref t), some (.ref p), y2, some (.str (S (P20.spell (P20.combL (w0 :: wr)))))] ∧ Same H5 H') (fun D' hrt hn => ?_) ?_
    · refine for_list_in (Pre := fun H1 a => Same H5 H1 ∧ H1 a = some (.lst (wV wr))) (fun R kk => ?_) fun H1 a ⟨sa, ha⟩ => ?_
      · simp only [L2.start, cxOf, tRet, tAndV, tOrV, tNotV, tCB, tCons, tNil, tVar, tC, tOp, tUn, tTest, tB, tIf, tIfS, tSeq, tAsg, tAnd, tOr, tNot, gName, tNext, tCall, tChain, rI, rI0, rEq, rNe, rGcd, rU, tM1, tM0, tSl, tPart, tNoPart, gTup, gCons, gNil, gSub, tTup, tLst, tPar, L2.rI, List.map_cons, List.map_nil, List.length_cons, List.length_nil, List.cons_append, List.nil_append, List.append_nil, List.getElem?_cons_zero, List.getElem?_cons_succ, List.set_cons_zero, List.set_cons_succ, Option.some.injEq, exists_eq_left, exists_eq_left', exists_eq_right, exists_and_left, exists_and_right, List.cons.injEq, and_true, true_and, V.int.injEq, V.str.injEq, V.bl.injEq, V.ref.injEq, List.replicate, Nat.reduceAdd, Nat.reduceSub, reduceCtorEq, false_and, and_false, if_true, if_false, Bool.false_eq_true, Bool.not_true, Bool.not_false, decide_eq_true_eq, exists_false, or_false, false_or]
        refine ⟨p, _, rfl, SqL.of hp3, fun q hq => ?_⟩
        have ec : cutV (List.map (fun w => V.str (S w)) (w0 :: wr)) (some 1) none = wV wr := cut_from (k := 1) (by simp)
        rw [ec]
        exact kk _ q ⟨same_new hq, upd_same⟩
      refine ⟨_, SqL.of ha, fun i σ' H' => ∃ y2, σ' = [some (.ref t), some (.ref p), y2, some (.str (S (P20.spell ((wr.take i).foldl (fun t u => P20.Tr.node t (.leaf u)) (.leaf w0)))))] ∧ H' = H1, ⟨none, rfl, rfl⟩, fun i σ' H' hi h => ?_, ?_, ?_⟩
      · obtain ⟨_, _, rfl⟩ := h
        exact SqL.of ha
      · rintro i xx σ' H' hx ⟨y2, rfl, rfl⟩
        rw [List.getElem?_map] at hx
        obtain ⟨u, hu, rfl⟩ := Option.map_eq_some_iff.mp hx
        have li : i < wr.length := (List.getElem?_eq_some_iff.mp hu).1
        have u8 := n8 u (List.mem_cons_of_mem _ (List.mem_of_getElem? hu))
        have tk : wr.take (i + 1) = wr.take i ++ [u] := by rw [List.take_succ, hu]; rfl
        have hl := hz (wr.take i) fun v hv => n8 v (List.mem_cons_of_mem _ (List.mem_of_mem_take hv))
        rw [List.length_take] at hl
        have lw : wr.length ≤ 23 := by simpa using few
        simp only [L2.start, cxOf, tRet, tAndV, tOrV, tNotV, tCB, tCons, tNil, tVar, tC, tOp, tUn, tTest, tB, tIf, tIfS, tSeq, tAsg, tAnd, tOr, tNot, gName, tNext, tCall, tChain, rI, rI0, rEq, rNe, rGcd, rU, tM1, tM0, tSl, tPart, tNoPart, gTup, gCons, gNil, gSub, tTup, tLst, tPar, L2.rI, List.map_cons, List.map_nil, List.length_cons, List.length_nil, List.cons_append, List.nil_append, List.append_nil, List.getElem?_cons_zero, List.getElem?_cons_succ, List.set_cons_zero, List.set_cons_succ, Option.some.injEq, exists_eq_left, exists_eq_left', exists_eq_right, exists_and_left, exists_and_right, List.cons.injEq, and_true, true_and, V.int.injEq, V.str.injEq, V.bl.injEq, V.ref.injEq, List.replicate, Nat.reduceAdd, Nat.reduceSub, reduceCtorEq, false_and, and_false, if_true, if_false, Bool.false_eq_true, Bool.not_true, Bool.not_false, decide_eq_true_eq, exists_false, or_false, false_or, tk, List.foldl_append, List.foldl_cons, List.foldl_nil]
        generalize (wr.take i).foldl (fun t u => P20.Tr.node t (.leaf u)) (.leaf w0) = t0 at hl ⊢
        refine js_all (acc := []) (ys := [[40], P20.spell t0, [32], u, [41]]) ⟨piece_c (by decide +kernel), piece_f (by omega) fun R k => ⟨_, rfl, k⟩, piece_c (by decide +kernel), piece_f (by omega) fun R k => ⟨_, rfl, k⟩, piece_c (by decide +kernel), trivial⟩ ?_ ?_
        · simp only [List.flatten_cons, List.flatten_nil, List.length_append, List.length_cons, List.length_nil]
          omega
        · have e : ([] : List Nat) ++ [[40], P20.spell t0, [32], u, [41]].flatten = P20.spell (.node t0 (.leaf u)) := by simp [P20.spell]
          rw [e]
          exact ⟨rfl, rfl⟩
      · rintro σ' H' ⟨y2, rfl, rfl⟩
        rw [List.length_map, List.take_length]
        exact hn _ _ ⟨y2, rfl, sa⟩
    rintro σ' H6 ⟨y2, rfl, s6⟩
    simp only [L2.start, cxOf, tRet, tAndV, tOrV, tNotV, tCB, tCons, tNil, tVar, tC, tOp, tUn, tTest, tB, tIf, tIfS, tSeq, tAsg, tAnd, tOr, tNot, gName, tNext, tCall, tChain, rI, rI0, rEq, rNe, rGcd, rU, tM1, tM0, tSl, tPart, tNoPart, gTup, gCons, gNil, gSub, tTup, tLst, tPar, L2.rI, List.map_cons, List.map_nil, List.length_cons, List.length_nil, List.cons_append, List.nil_append, List.append_nil, List.getElem?_cons_zero, List.getElem?_cons_succ, List.set_cons_zero, List.set_cons_succ, Option.some.injEq, exists_eq_left, exists_eq_left', exists_eq_right, exists_and_left, exists_and_right, List.cons.injEq, and_true, true_and, V.int.injEq, V.str.injEq, V.bl.injEq, V.ref.injEq, List.replicate, Nat.reduceAdd, Nat.reduceSub, reduceCtorEq, false_and, and_false, if_true, if_false, Bool.false_eq_true, Bool.not_true, Bool.not_false, decide_eq_true_eq, exists_false, or_false, false_or, tMakeS]
    have lv : P20.leaves (P20.combL (w0 :: wr)) = w0 :: wr := P20.combL_leaves ne
    have gd : P20.Good nameB (P20.combL (w0 :: wr)) := good_of (by rw [lv]; exact good)
    have hl := hz wr fun v hv => n8 v (List.mem_cons_of_mem _ hv)
    have lw : wr.length ≤ 23 := by simpa using few
    refine mk_tree (P20.words_spell gd.ok) (by show (P20.spell (wr.foldl _ _)).length ≤ _; omega) gd (by rw [lv]; exact nd) (by rw [lv]; exact few) fun H' x s nx tr => alt H' x (s3.trans (s6.trans s)) ((s3.trans s6).free nx) tr
end
end W20

set_option Elab.async false
set_option linter.all false
set_option maxRecDepth 100000
set_option maxHeartbeats 4000000
/-! Z20: _law_bad -/
namespace W20
open PySem PySem.Spec PyProof.Rows L2 Lay
open SX (S S_len S_cat S_tl)
open C8 (Cal pe_c pe_gc fnScope_by E0)
section
variable {P : Program} {w : World} {K : PySem.W.Frag} {mg : Str → Option Value} {base : Heap} {f : Addr} {fd : FuncData}
theorem sc46 : FnScope ["name", "words"] ["name", "words"] (defScope (top 43)) := fnScope_by (by decide +kernel)
/-- what is due of a tree that is none -/
def BadList (H : Hp) (a : Addr) : Prop := ∃ t, H a = some (.lst [.str "BadTree", .ref t, .str "ValueError"]) ∧ H t = some (.tup [.str "why"])
def spBad : Sp := fun vs H Q _ => ∃ l, vs = [.str "BadTree", .ref l] ∧ H l = some (.lst []) ∧ ∀ H' a, Same H H' → H a = none → BadList H' a → Q (.ref a) H'
theorem ok_bad (m : Mg K mg) (F : Fn K "_law_bad" 43 f fd) (g : mg "_law_bad" = some (.ref f)) : Cal P w K mg base 1 "_law_bad" spBad [] := by
  have sc := sc46
  refine calD F g sc (fun _ _ _ _ _ _ us hl => match us, hl with | [_, _], _ => rfl) ?_ fun cdv A outer s H vs Q E hr h => ?_
  · rintro vs H Q E ⟨a, rfl, _⟩
    rfl
  · obtain ⟨l, rfl, hl, q⟩ := h
    refine ⟨_, (pss_cons (ps_if (pt_cmpR op_in_seq (pv 0) (pe_tup (pa_cons pe_str (pa_cons pe_str (pa_cons pe_str (pa_cons pe_str pa_nil))))) rfl)
        (pss_one (ps_ret (pe_op op_cat (pe_op op_cat (pe_lst (pa_cons (pv 0) pa_nil)) (pv 1)) (pe_lst (pa_cons pe_str pa_nil)))))
        pss_nil)
      (pss_one (ps_ret (pe_op op_cat (pe_op op_cat (pe_lst (pa_cons (pv 0) pa_nil)) (pv 1)) (pe_lst (pa_cons (pe_tup (pa_cons pe_str pa_nil)) (pa_cons pe_str pa_nil))))))), ?_⟩
    simp only [L2.start, cxOf, tRet, tAndV, tOrV, tNotV, tCB, tCons, tNil, tVar, tC, tOp, tUn, tTest, tB, tIf, tIfS, tSeq, tAsg, tAnd, tOr, tNot, gName, tNext, tCall, tChain, rI, rI0, rEq, rNe, rGcd, rU, tM1, tM0, tSl, tPart, tNoPart, gTup, gCons, gNil, gSub, tTup, tLst, tPar, L2.rI, List.map_cons, List.map_nil, List.length_cons, List.length_nil, List.cons_append, List.nil_append, List.append_nil, List.getElem?_cons_zero, List.getElem?_cons_succ, List.set_cons_zero, List.set_cons_succ, Option.some.injEq, exists_eq_left, exists_eq_left', exists_eq_right, exists_and_left, exists_and_right, List.cons.injEq, and_true, true_and, V.int.injEq, V.str.injEq, V.bl.injEq, V.ref.injEq, List.replicate, Nat.reduceAdd, Nat.reduceSub, reduceCtorEq, false_and, and_false, if_true, if_false, Bool.false_eq_true, Bool.not_true, Bool.not_false, decide_eq_true_eq, exists_false, or_false, false_or]
    refine ⟨small (by decide), fun p hp => ⟨_, _, rfl, .inr (sqT_of upd_same), rfl, by decide, false, ?_, ?_⟩⟩
    · decide +kernel
    rw [if_neg (by decide)]
    refine ⟨small (by decide), fun a1 h1 => ?_⟩
    have s1 : Same H _ := (same_new (o := .tup [V.str (Str.ofString "BadNumber"), V.str (Str.ofString "Unlike"), V.str (Str.ofString "TooMany"), V.str (Str.ofString "NotOne")]) hp).trans (same_new (o := .lst [V.str (Str.ofString "BadTree")]) h1)
    have hl1 := s1 _ _ hl
    refine ⟨a1, l, _, _, rfl, rfl, upd_same, hl1, by simp [sizeLine_eq], fun a2 h2 => ⟨small (by decide), fun a3 h3 => ⟨small (by decide), fun a4 h4 => ?_⟩⟩⟩
    rw [List.append_nil] at h3 h4 ⊢
    have s2 := s1.trans (same_new (o := .lst [V.str (Str.ofString "BadTree")]) h2)
    have s3 := s2.trans (same_new (o := .tup [V.str (Str.ofString "why")]) h3)
    have s4 := s3.trans (same_new (o := .lst [V.ref a3, V.str (Str.ofString "ValueError")]) h4)
    have k2 := (same_new (o := .lst [V.ref a3, V.str (Str.ofString "ValueError")]) h4) _ _ ((same_new (o := .tup [V.str (Str.ofString "why")]) h3) _ _ (upd_same (H := upd (upd H p (HO.tup [V.str (Str.ofString "BadNumber"), V.str (Str.ofString "Unlike"), V.str (Str.ofString "TooMany"), V.str (Str.ofString "NotOne")])) a1 (HO.lst [V.str (Str.ofString "BadTree")])) (a := a2) (o := .lst [V.str (Str.ofString "BadTree")])))
    refine ⟨a2, a4, _, _, rfl, rfl, k2, upd_same, by simp [sizeLine_eq], fun a5 h5 => ?_⟩
    refine q _ a5 (s4.trans (same_new h5)) (s4.free h5) ⟨a3, upd_same, ?_⟩
    exact (same_new h5) _ _ ((same_new h4) _ _ upd_same)
def spBadM : Sp := fun vs H Q _ => ∃ l, vs = [.str "TooMany", .ref l] ∧ H l = some (.lst [.str "things", .int 24]) ∧ ∀ H' a, Same H H' → H a = none → H' a = some (.lst [.str "TooMany", .str "things", .int 24, .str "ValueError"]) → Q (.ref a) H'
theorem ok_badM (m : Mg K mg) (F : Fn K "_law_bad" 43 f fd) (g : mg "_law_bad" = some (.ref f)) : Cal P w K mg base 1 "_law_bad" spBadM [] := by
  have sc := sc46
  refine calD F g sc (fun _ _ _ _ _ _ us hl => match us, hl with | [_, _], _ => rfl) ?_ fun cdv A outer s H vs Q E hr h => ?_
  · rintro vs H Q E ⟨a, rfl, _⟩
    rfl
  · obtain ⟨l, rfl, hl, q⟩ := h
    refine ⟨_, (pss_cons (ps_if (pt_cmpR op_in_seq (pv 0) (pe_tup (pa_cons pe_str (pa_cons pe_str (pa_cons pe_str (pa_cons pe_str pa_nil))))) rfl)
        (pss_one (ps_ret (pe_op op_cat (pe_op op_cat (pe_lst (pa_cons (pv 0) pa_nil)) (pv 1)) (pe_lst (pa_cons pe_str pa_nil)))))
        pss_nil)
      (pss_one (ps_ret (pe_op op_cat (pe_op op_cat (pe_lst (pa_cons (pv 0) pa_nil)) (pv 1)) (pe_lst (pa_cons (pe_tup (pa_cons pe_str pa_nil)) (pa_cons pe_str pa_nil))))))), ?_⟩
    simp only [L2.start, cxOf, tRet, tAndV, tOrV, tNotV, tCB, tCons, tNil, tVar, tC, tOp, tUn, tTest, tB, tIf, tIfS, tSeq, tAsg, tAnd, tOr, tNot, gName, tNext, tCall, tChain, rI, rI0, rEq, rNe, rGcd, rU, tM1, tM0, tSl, tPart, tNoPart, gTup, gCons, gNil, gSub, tTup, tLst, tPar, L2.rI, List.map_cons, List.map_nil, List.length_cons, List.length_nil, List.cons_append, List.nil_append, List.append_nil, List.getElem?_cons_zero, List.getElem?_cons_succ, List.set_cons_zero, List.set_cons_succ, Option.some.injEq, exists_eq_left, exists_eq_left', exists_eq_right, exists_and_left, exists_and_right, List.cons.injEq, and_true, true_and, V.int.injEq, V.str.injEq, V.bl.injEq, V.ref.injEq, List.replicate, Nat.reduceAdd, Nat.reduceSub, reduceCtorEq, false_and, and_false, if_true, if_false, Bool.false_eq_true, Bool.not_true, Bool.not_false, decide_eq_true_eq, exists_false, or_false, false_or]
    refine ⟨small (by decide), fun p hp => ⟨_, _, rfl, .inr (sqT_of upd_same), rfl, by decide, true, ?_, ?_⟩⟩
    · decide +kernel
    rw [if_pos rfl]
    refine ⟨small (by decide), fun a1 h1 => ?_⟩
    have sp := same_new (o := .tup [V.str (Str.ofString "BadNumber"), V.str (Str.ofString "Unlike"), V.str (Str.ofString "TooMany"), V.str (Str.ofString "NotOne")]) hp
    have s1 := sp.trans (same_new (o := .lst [V.str (Str.ofString "TooMany")]) h1)
    have hl1 := s1 _ _ hl
    refine ⟨a1, l, _, _, rfl, rfl, upd_same, hl1, by simp [sizeLine_eq], fun a2 h2 => ⟨small (by decide), fun a4 h4 => ?_⟩⟩
    have s2 := s1.trans (same_new (o := .lst ([V.str (Str.ofString "TooMany")] ++ [V.str (Str.ofString "things"), V.int 24])) h2)
    have s4 := s2.trans (same_new (o := .lst [V.str (Str.ofString "ValueError")]) h4)
    refine ⟨a2, a4, _, _, rfl, rfl, same_new h4 _ _ upd_same, upd_same, by simp [sizeLine_eq], fun a5 h5 => ?_⟩
    exact q _ a5 (s4.trans (same_new h5)) (s4.fresh h5) upd_same
end
end W20

set_option Elab.async false
set_option linter.all false
set_option maxRecDepth 100000
set_option maxHeartbeats 4000000
/-! J20: words about errors, the deed back -/
namespace W20
open PySem PySem.Spec PyProof.Rows L2 Lay
open SX (S S_len S_cat S_tl)
open C8 (Cal pe_c pe_gc fnScope_by E0)
section
variable {P : Program} {w : World} {K : PySem.W.Frag} {mg : Str → Option Value} {base : Heap} {f : Addr} {fd : FuncData}
theorem sc45 : FnScope ["word"] ["word"] (defScope (top 42)) := fnScope_by (by decide +kernel)
def spNo : Sp := fun vs H Q _ => ∃ v, vs = [v] ∧ ∀ a, H a = none → Q (.ref a) (upd H a (.lst [.str "NoSuch", v, .str "LookupError"]))
theorem ok_no (m : Mg K mg) (F : Fn K "_law_no" 42 f fd) (g : mg "_law_no" = some (.ref f)) : Cal P w K mg base 1 "_law_no" spNo [] := by
  have sc := sc45
  refine calD F g sc (fun _ _ _ _ _ _ us hl => match us, hl with | [_], _ => rfl) ?_ fun cdv A outer s H vs Q E hr h => ?_
  · rintro vs H Q E ⟨v, rfl, _⟩
    rfl
  · obtain ⟨v, rfl, q⟩ := h
    refine ⟨_, (pss_one (ps_ret (pe_lst (pa_cons pe_str (pa_cons (pv 0) (pa_cons pe_str pa_nil)))))), ?_⟩
    simp only [L2.start, cxOf, tRet, tAndV, tOrV, tNotV, tCB, tCons, tNil, tVar, tC, tOp, tUn, tTest, tB, tIf, tIfS, tSeq, tAsg, tAnd, tOr, tNot, gName, tNext, tCall, tChain, rI, rI0, rEq, rNe, rGcd, rU, tM1, tM0, tSl, tPart, tNoPart, gTup, gCons, gNil, gSub, tTup, tLst, tPar, L2.rI, List.map_cons, List.map_nil, List.length_cons, List.length_nil, List.cons_append, List.nil_append, List.append_nil, List.getElem?_cons_zero, List.getElem?_cons_succ, List.set_cons_zero, List.set_cons_succ, Option.some.injEq, exists_eq_left, exists_eq_left', exists_eq_right, exists_and_left, exists_and_right, List.cons.injEq, and_true, true_and, V.int.injEq, V.str.injEq, V.bl.injEq, V.ref.injEq, List.replicate, Nat.reduceAdd, Nat.reduceSub, reduceCtorEq, false_and, and_false, if_true, if_false, Bool.false_eq_true, Bool.not_true, Bool.not_false, decide_eq_true_eq, exists_false, or_false, false_or]
    exact ⟨small (by decide), q⟩
end
end W20

set_option Elab.async false
set_option linter.all false
set_option maxRecDepth 100000
set_option maxHeartbeats 4000000
/-! AA20: _law_like -/
namespace W20
open PySem PySem.Spec PyProof.Rows L2 Lay
open SX (S S_len S_cat S_tl)
open C8 (Cal pe_c pe_gc fnScope_by E0)
/-- the two are alike: texts, lists and tuples of such, n deep -/
def Lk : Nat → Hp → V → V → Prop
  | 0, _, _, _ => False
  | n + 1, H, x, y => (x = y ∧ ((∃ z, y = .str z) ∨ (∃ i, y = .int i) ∨ (∃ b, y = .bl b) ∨ y = .non)) ∨ ∃ a b xs ys, x = .ref a ∧ y = .ref b ∧ ((H a = some (.lst xs) ∧ H b = some (.lst ys)) ∨ (H a = some (.tup xs) ∧ H b = some (.tup ys))) ∧ xs.length = ys.length ∧ xs.length ≤ 100000 ∧
      ∀ (i : Nat) u v, xs[i]? = some u → ys[i]? = some v → Lk n H u v
theorem Lk.same {H H' : Hp} (e : Same H H') : ∀ {n : Nat} {x y : V}, Lk n H x y → Lk n H' x y
  | 0, _, _, h => h
  | n + 1, _, _, h => by
    rcases h with h | ⟨a, b, xs, ys, h1, h2, h3, h4, h5, h6⟩
    · exact .inl h
    · exact .inr ⟨a, b, xs, ys, h1, h2, h3.imp (fun ⟨p, q⟩ => ⟨e _ _ p, e _ _ q⟩) (fun ⟨p, q⟩ => ⟨e _ _ p, e _ _ q⟩), h4, h5, fun i u v g1 g2 => (h6 i u v g1 g2).same e⟩
theorem isaLT {K : PySem.W.Frag} {t : String} (ht : t ∈ kinds) : PySem.W.kitAny K (.type t) [.type "list", .type "tuple"] = some (isaB t "list" || isaB t "tuple") := by
  unfold PySem.W.kitAny
  rw [kit_ty (kit_kinds t ht "list" (by decide))]
  cases isaB t "list" with
  | true => rfl
  | false =>
    unfold PySem.W.kitAny
    rw [kit_ty (kit_kinds t ht "tuple" (by decide))]
    cases isaB t "tuple" <;> rfl
theorem rIsiT_i {K : PySem.W.Frag} {H : Hp} {Q : VK} {x : V} {t : String} {p : Addr} (kd : Kd K H x t) (hp : H p = some (.tup [.ty "list", .ty "tuple"])) (k : Q (.bl (isaB t "list" || isaB t "tuple")) H) : rIsiT K [x, .ref p] H Q :=
  ⟨x, p, _, .type t, [.type "list", .type "tuple"], _, rfl, hp, .cons (.ty _) (.cons (.ty _) .nil), kd.2, isaLT kd.1, k⟩
section
variable {P : Program} {w : World} {K : PySem.W.Frag} {mg : Str → Option Value} {base : Heap} {f : Addr} {fd : FuncData}
theorem sc42 : FnScope ["told", "due", "k", "part"] ["told", "due"] (defScope (top 39)) := fnScope_by (by decide +kernel)
def spLike (n : Nat) : Sp := fun vs H Q _ => ∃ x y, vs = [x, y] ∧ Lk n H x y ∧ ∀ H', Same H H' → Q (.bl true) H'
theorem ok_like_step (m : Mg K mg) (F : Fn K "_law_like" 39 f fd) (g : mg "_law_like" = some (.ref f)) (n : Nat) (c__law_like : Cal P w K mg base n "_law_like" (spLike n) []) : Cal P w K mg base (n + 1) "_law_like" (spLike (n + 1)) [] := by
  have sc := sc42
  refine calD F g sc (fun _ _ _ _ _ _ us hl => match us, hl with | [_, _], _ => rfl) ?_ fun cdv A outer s H vs Q E hr h => ?_
  · rintro vs H Q E ⟨x, y, rfl, _⟩
    rfl
  · obtain ⟨x, y, rfl, lk, q⟩ := h
    refine ⟨_, (pss_cons (ps_if (pt_val (pe_callB call_isiT (by rfl) m.isinstance_ boot_isinstance (pa_cons (pv 1) (pa_cons (pe_tup (pa_cons (pe_bltn (v := .ty "list") (by rfl) m.list_ boot_list rfl) (pa_cons (pe_bltn (v := .ty "tuple") (by rfl) m.tuple_ boot_tuple rfl) pa_nil))) pa_nil))))
        (pss_cons (ps_if ((pw_or (pt_cmpR op_ne (pe_callB call_isB (by rfl) m.isinstance_ boot_isinstance (pa_cons (pv 0) (pa_cons (pe_bltn (v := .ty "list") (by rfl) m.list_ boot_list rfl) pa_nil))) (pe_callB call_isB (by rfl) m.isinstance_ boot_isinstance (pa_cons (pv 1) (pa_cons (pe_bltn (v := .ty "list") (by rfl) m.list_ boot_list rfl) pa_nil))) (nomark _)) (pw_or (pt_cmpR op_ne (pe_callB call_isB (by rfl) m.isinstance_ boot_isinstance (pa_cons (pv 0) (pa_cons (pe_bltn (v := .ty "tuple") (by rfl) m.tuple_ boot_tuple rfl) pa_nil))) (pe_callB call_isB (by rfl) m.isinstance_ boot_isinstance (pa_cons (pv 1) (pa_cons (pe_bltn (v := .ty "tuple") (by rfl) m.tuple_ boot_tuple rfl) pa_nil))) (nomark _)) (pw_or1 (pt_cmpR op_ne (pe_callB call_len (by rfl) m.len_ boot_len (pa_cons (pv 0) pa_nil)) (pe_callB call_len (by rfl) m.len_ boot_len (pa_cons (pv 1) pa_nil)) (nomark _)))))).pt
          (pss_one (ps_ret pe_bl))
          pss_nil)
        (pss_one (ps_ret (pe_cmpR op_notIn_seq pe_bl (pe_lc (own := [("k", 2)]) (g := gName 2) (by rfl) sc.nd (pi_range1 rfl m.range_ (pa_cons (pe_callB call_len (by rfl) m.len_ boot_len (pa_cons (pv 1) pa_nil)) pa_nil)) (blkOk_by (own := [("k", 2)]) (N := ["told", "due", "k", "part"]) (sc := defScope (top 39)) (by decide +kernel)) (fun _ _ _ _ _ => pg_name (i := 2) sc.nd rfl (.inl rfl)) (fun _ _ _ _ _ => pts_nil) (fun _ _ _ _ _ => pe_c c__law_like hr (Nat.le_refl _) (by rfl) (pa_cons (pe_ix (show IxR _ (rIx K) from ix_seq) (pv 0) (pv 2) (fun _ _ => rfl)) (pa_cons (pe_ix (show IxR _ (rIx K) from ix_seq) (pv 1) (pv 2) (fun _ _ => rfl)) pa_nil)))) rfl))))
        pss_nil)
      (pss_cons (ps_if (pt_val (pe_callB call_isB (by rfl) m.isinstance_ boot_isinstance (pa_cons (pv 1) (pa_cons (pe_bltn (v := .ty "dict") (by rfl) m.dict_ boot_dict rfl) pa_nil)))) pss_never pss_nil)
      (pss_cons (ps_if ((pw_or (pt_cmpR op_isN (pv 1) pe_non (nomark _)) (pw_or1 (pt_cmpR op_isN (pv 0) pe_non (nomark _))))).pt
        (pss_one (ps_ret (pe_and (pe_cmpR op_isN (pv 0) pe_non (nomark _)) (pe_one (pe_cmpR op_isN (pv 1) pe_non (nomark _))))))
        pss_nil)
      (pss_cons (ps_if ((pw_or (pt_cmpR op_ne (pe_callB call_isB (by rfl) m.isinstance_ boot_isinstance (pa_cons (pv 0) (pa_cons (pe_bltn (v := .ty "bool") (by rfl) m.bool_ boot_bool rfl) pa_nil))) (pe_callB call_isB (by rfl) m.isinstance_ boot_isinstance (pa_cons (pv 1) (pa_cons (pe_bltn (v := .ty "bool") (by rfl) m.bool_ boot_bool rfl) pa_nil))) (nomark _)) (pw_or1 (pt_cmpR op_ne (pe_callB call_isB (by rfl) m.isinstance_ boot_isinstance (pa_cons (pv 0) (pa_cons (pe_bltn (v := .ty "int") (by rfl) m.int_ boot_int rfl) pa_nil))) (pe_callB call_isB (by rfl) m.isinstance_ boot_isinstance (pa_cons (pv 1) (pa_cons (pe_bltn (v := .ty "int") (by rfl) m.int_ boot_int rfl) pa_nil))) (nomark _))))).pt
        (pss_one (ps_ret pe_bl))
        pss_nil)
      (pss_one (ps_ret (pe_and (pe_cmpR op_eq (pe_callB call_isB (by rfl) m.isinstance_ boot_isinstance (pa_cons (pv 0) (pa_cons (pe_bltn (v := .ty "str") (by rfl) m.str_ boot_str rfl) pa_nil))) (pe_callB call_isB (by rfl) m.isinstance_ boot_isinstance (pa_cons (pv 1) (pa_cons (pe_bltn (v := .ty "str") (by rfl) m.str_ boot_str rfl) pa_nil))) (nomark _)) (pe_one (pe_cmpR op_eq (pv 0) (pv 1) (nomark _)))))))))), ?_⟩
    simp only [L2.start, cxOf, tRet, tAndV, tOrV, tNotV, tCB, tCons, tNil, tVar, tC, tOp, tUn, tTest, tB, tIf, tIfS, tSeq, tAsg, tAnd, tOr, tNot, gName, tNext, tCall, tChain, rI, rI0, rEq, rNe, rGcd, rU, tM1, tM0, tSl, tPart, tNoPart, gTup, gCons, gNil, gSub, tTup, tLst, tPar, L2.rI, List.map_cons, List.map_nil, List.length_cons, List.length_nil, List.cons_append, List.nil_append, List.append_nil, List.getElem?_cons_zero, List.getElem?_cons_succ, List.set_cons_zero, List.set_cons_succ, Option.some.injEq, exists_eq_left, exists_eq_left', exists_eq_right, exists_and_left, exists_and_right, List.cons.injEq, and_true, true_and, V.int.injEq, V.str.injEq, V.bl.injEq, V.ref.injEq, List.replicate, Nat.reduceAdd, Nat.reduceSub, reduceCtorEq, false_and, and_false, if_true, if_false, Bool.false_eq_true, Bool.not_true, Bool.not_false, decide_eq_true_eq, exists_false, or_false, false_or]
    rcases lk with ⟨rfl, sc4⟩ | ⟨a, b, xs, ys, rfl, rfl, hab, len, few, items⟩
    · by_cases no : x = .non
      · subst no
        refine ⟨small (by decide), fun p hp => ?_⟩
        have s1 := same_new (o := .tup [.ty "list", .ty "tuple"]) hp
        refine rIsiT_i (t := "NoneType") kd_non upd_same ⟨false, rfl, ?_⟩
        rw [if_neg (by decide)]
        refine isi_f (T := "dict") kd_non ?_
        rw [if_pos rfl, if_pos rfl, decide_eq_true rfl]
        exact q _ s1
      · obtain ⟨t, kd, k1, k2, k3, k4⟩ : ∃ t, (∀ H', Kd K H' x t) ∧ isaB t "list" = false ∧ isaB t "tuple" = false ∧ isaB t "dict" = false ∧ scal x x = true := by
          rcases sc4 with ⟨z, rfl⟩ | ⟨z, rfl⟩ | ⟨z, rfl⟩ | z
          · exact ⟨"str", fun H' => kd_str, by decide, by decide, by decide, rfl⟩
          · exact ⟨"int", fun H' => kd_int, by decide, by decide, by decide, rfl⟩
          · exact ⟨"bool", fun H' => kd_bl, by decide, by decide, by decide, rfl⟩
          · exact absurd z no
        refine ⟨small (by decide), fun p hp => ?_⟩
        have s1 := same_new (o := .tup [.ty "list", .ty "tuple"]) hp
        refine rIsiT_i (t := t) (kd _) upd_same ⟨false, by rw [k1, k2]; rfl, ?_⟩
        rw [if_neg (by decide)]
        refine isi_f (T := "dict") (kd _) ?_ k3
        rw [if_neg no, if_neg no]
        refine rIsB_i (kd _) (rIsB_i (kd _) ⟨rfl, ?_⟩)
        rw [if_neg (by simp)]
        refine rIsB_i (kd _) (rIsB_i (kd _) ⟨rfl, ?_⟩)
        rw [if_neg (by simp)]
        refine rIsB_i (kd _) (rIsB_i (kd _) ⟨rfl, ?_⟩)
        rw [if_pos (by simp)]
        refine ⟨k4, ?_⟩
        rw [decide_eq_true rfl]
        exact q _ s1
    · obtain ⟨t, ht, hT, ka, kb, iab⟩ : ∃ t, t ∈ kinds ∧ (isaB t "list" || isaB t "tuple") = true ∧ Kd K H (.ref a) t ∧ Kd K H (.ref b) t ∧ ((∀ H', Same H H' → LenV K (.ref a) H' xs.length ∧ LenV K (.ref b) H' ys.length) ∧ ∀ (H' : Hp), Same H H' → ∀ (i : Nat) u v (R : VK), xs[i]? = some u → ys[i]? = some v → (R u H' → rIx K (.ref a) (.int (i : Int)) H' R) ∧ (R v H' → rIx K (.ref b) (.int (i : Int)) H' R)) := by
        rcases hab with ⟨ha, hb⟩ | ⟨ha, hb⟩
        · exact ⟨"list", by decide, by decide, kd_lst ha, kd_lst hb, fun H' e => ⟨len_L (SqL.of (e _ _ ha)), len_L (SqL.of (e _ _ hb))⟩, fun H' e i u v R g1 g2 => ⟨fun r => .inl (ixL (SqL.of (e _ _ ha)) i g1 r), fun r => .inl (ixL (SqL.of (e _ _ hb)) i g2 r)⟩⟩
        · exact ⟨"tuple", by decide, by decide, kd_tup ha, kd_tup hb, fun H' e => ⟨len_T (e _ _ ha), len_T (e _ _ hb)⟩, fun H' e i u v R g1 g2 => ⟨fun r => .inr (.inl (ixT (e _ _ ha) i g1 r)), fun r => .inr (.inl (ixT (e _ _ hb) i g2 r))⟩⟩
      obtain ⟨lens, ix⟩ := iab
      refine ⟨small (by decide), fun p hp => ?_⟩
      have s1 := same_new (o := .tup [.ty "list", .ty "tuple"]) hp
      refine rIsiT_i (kb.same s1) upd_same ⟨true, by rw [hT], ?_⟩
      rw [if_pos rfl]
      refine rIsB_i (ka.same s1) (rIsB_i (kb.same s1) ⟨rfl, ?_⟩)
      rw [if_neg (by simp)]
      refine rIsB_i (ka.same s1) (rIsB_i (kb.same s1) ⟨rfl, ?_⟩)
      rw [if_neg (by simp)]
      refine ⟨_, (lens _ s1).1, _, (lens _ s1).2, rfl, ?_⟩
      rw [if_neg (by simp [len])]
      refine lc_range (n := ys.length) (by omega) (fun R k => ⟨_, rfl, _, rfl, _, (lens _ s1).2, k⟩) (fun _ => rfl) fun D hD => ⟨fun i H' => Same (upd H p (.tup [.ty "list", .ty "tuple"])) H' ∧ H' D = some (.lst (List.replicate i (.bl true))), ⟨same_new hD, upd_same⟩, ?_, ?_⟩
      · rintro i H' hi ⟨s2, hDi⟩
        have gx : xs[i]? = some (xs[i]'(by omega)) := List.getElem?_eq_getElem _
        have gy : ys[i]? = some ys[i] := List.getElem?_eq_getElem _
        refine ⟨_, rfl, _, rfl, (ix H' (s1.trans s2) i _ _ _ gx gy).1 ⟨_, rfl, _, rfl, (ix H' (s1.trans s2) i _ _ _ gx gy).2 ⟨_, _, rfl, (items i _ _ gx gy).same (s1.trans s2), fun H3 s3 => ?_⟩⟩⟩
        refine ⟨_, s3 _ _ hDi, by rw [List.length_replicate, sizeLine_eq]; omega, fun c u hc => ?_, ?_⟩
        · have nc : c ≠ D := ne_of_none hc hD
          rw [upd_ne nc]
          exact s3 _ _ (s2 _ _ hc)
        · rw [upd_same, ← List.replicate_succ']
      · rintro H' ⟨s2, hDi⟩
        refine ⟨D, _, rfl, .inl (SqL.of hDi), rfl, by simp [flatV], ?_⟩
        have e : inV (V.bl false) (List.replicate ys.length (V.bl true)) = false := by
          unfold inV
          rw [List.any_eq_false]
          intro v hv
          rw [List.eq_of_mem_replicate hv]
          decide
        rw [e]
        exact q _ (s1.trans s2)
theorem ok_like (m : Mg K mg) (F : Fn K "_law_like" 39 f fd) (g : mg "_law_like" = some (.ref f)) : ∀ n, Cal P w K mg base n "_law_like" (spLike n) []
  | 0 => ⟨f, fd, ["told", "due"], [], ⟨fun vs H Q E ⟨x, y, _, z, _⟩ => z.elim, fun A outer s H args us vs Q E hr he hb hv ⟨x, y, _, z, _⟩ => z.elim⟩, g, F.kp, F.bindsN (fun _ _ _ _ _ _ us hl => match us, hl with | [_, _], _ => rfl), .nil⟩
  | n + 1 => ok_like_step m F g n (ok_like m F g n)
end
end W20

set_option Elab.async false
set_option linter.all false
set_option maxRecDepth 100000
set_option maxHeartbeats 4000000
/-! BB20: what is told of a caught error -/
namespace W20
open PySem PySem.Spec PyProof.Rows L2 Lay L2H
open SX (S S_len S_cat S_tl)
open C8 (Cal pe_c pe_gc fnScope_by E0 sl_txt rSlX)
theorem bootX_ValueError : bootBuiltins "ValueError" = some (.type "ValueError") := by decide +kernel
theorem bootX_LookupError : bootBuiltins "LookupError" = some (.type "LookupError") := by decide +kernel
theorem bootX_RuntimeError : bootBuiltins "RuntimeError" = some (.type "RuntimeError") := by decide +kernel
theorem pe_never {X : Cx} {e : Expr} : PE X e (fun _ _ _ => False) := ⟨fun _ _ _ _ _ _ h => h.elim⟩
theorem dictP_same {H H' : Hp} {o : Obj} (d : DictP H o) (e : Same H H') : DictP H' o := d.imp id fun ⟨dd, fs, h1, h2⟩ => ⟨dd, fs, h1, e _ _ h2⟩
section
variable {K : PySem.W.Frag} {D : Addr}
/-- one mark -/
def tMark (K : PySem.W.Frag) (D : Addr) (p : Addr × Obj) (n : Str) (c : V) : TE := tTup (tCons (tC (.str n)) (tCons (tCB (rIsP K D p) (tCons (tVar 0) (tCons (tC c) tNil))) tNil))
abbrev Mrk : Type := Str × V × Bool
def tMarks (K : PySem.W.Frag) (D : Addr) (p : Addr × Obj) : List Mrk → TA
  | [] => tNil
  | mk :: r => tCons (tMark K D p mk.1 mk.2.1) (tMarks K D p r)
def MrkOk (K : PySem.W.Frag) (D : Addr) (mk : Mrk) : Prop := ∃ cv, (∀ u, RelV mk.2.1 u → u = cv) ∧ PySem.W.kitOne K (.ref D) cv = some mk.2.2
/-- the marks at ts -/
abbrev Marks (H : Hp) (ms : List Mrk) (ts : List V) : Prop := Paired (fun (mk : Mrk) v => ∃ t, v = .ref t ∧ H t = some (.tup [.str mk.1, .bl mk.2.2])) ms ts
theorem Marks.same {H H' : Hp} {ms : List Mrk} {ts : List V} (h : Marks H ms ts) (e : Same H H') : Marks H' ms ts := by
  induction h with
  | nil => exact .nil
  | cons r t ih =>
    obtain ⟨a, ea, ha⟩ := r
    exact .cons ⟨a, ea, e _ _ ha⟩ ih
theorem Marks.app {H : Hp} {ms ns : List Mrk} {ts us : List V} (h : Marks H ms ts) (k : Marks H ns us) : Marks H (ms ++ ns) (ts ++ us) := by
  induction h with
  | nil => exact k
  | cons r t ih => exact .cons r ih
theorem marks_run {p : Addr × Obj} {σ : L2.St} (hσ : σ[0]? = some (some (.ref p.1))) : ∀ (ms : List Mrk) (H : Hp) (R : List V → Hp → Prop), (∀ mk ∈ ms, MrkOk K D mk) → DictP H p.2 →
    (∀ ts H', Same H H' → Marks H' ms ts → R ts H') → tMarks K D p ms σ H R
  | [], H, R, _, _, k => k [] H (Same.refl H) .nil
  | mk :: r, H, R, ok, dp, k => by
    obtain ⟨cv, h1, h2⟩ := ok mk List.mem_cons_self
    refine ⟨_, hσ, _, cv, _, rfl, h1, h2, dp, small (by simp), fun t ht => ?_⟩
    have s1 : Same H (upd H t (.tup [.str mk.1, .bl mk.2.2])) := same_new ht
    refine marks_run hσ r _ _ (fun x hx => ok x (List.mem_cons_of_mem _ hx)) (dictP_same dp s1) fun ts H' s2 pr => ?_
    exact k (.ref t :: ts) H' (s1.trans s2) (.cons ⟨t, rfl, s2 _ _ upd_same⟩ pr)
/-- the word of a mark that says yes -/
def fW (H : Hp) : V → Option V
  | .ref t => (match H t with
    | some (.tup [.str n, .bl true]) => some (.str n)
    | _ => none)
  | _ => none
theorem fW_at {H : Hp} {t : Addr} {n : Str} {b : Bool} (h : H t = some (.tup [.str n, .bl b])) : fW H (.ref t) = if b = true then some (.str n) else none := by
  cases b <;> simp only [fW, h] <;> rfl
theorem paired_right {α β : Type} {R : α → β → Prop} : ∀ {xs : List α} {ys : List β} {y : β}, Paired R xs ys → y ∈ ys → ∃ x, R x y
  | _, _, _, .nil, h => by cases h
  | _, _, _, .cons r t, h => by
    rcases List.mem_cons.mp h with e | h
    · rw [e]; exact ⟨_, r⟩
    · exact paired_right t h
theorem marks_words {H : Hp} : ∀ {ms : List Mrk} {ts : List V}, Marks H ms ts → ts.filterMap (fW H) = (ms.filter (fun mk => mk.2.2)).map (fun mk => V.str mk.1)
  | _, _, .nil => rfl
  | _, _, @Paired.cons _ _ _ mk v ms ts h t => by
    obtain ⟨a, rfl, ha⟩ := h
    rw [List.filterMap_cons, fW_at ha, List.filter_cons, marks_words t]
    cases mk.2.2 <;> rfl
/-- [pair[0] for pair in pairs if pair[1]] -/
theorem lc_marks {σ : L2.St} {H : Hp} {Q : VK} {ms : List Mrk} {ts : List V} {l : Addr} (hσ : σ[1]? = some (some (.ref l))) (hl : H l = some (.lst ts)) (pr : Marks H ms ts)
    (hw : ∀ x, wipe ((wipe σ [3]).set 3 (some x)) [3] = wipe σ [3]) (hi : ∀ x : V, ((wipe σ [3]).set 3 (some x))[3]? = some (some x)) (k : ∀ a, H a = none → Q (.ref a) (upd H a (.lst ((ms.filter (fun mk => mk.2.2)).map (fun mk => V.str mk.1))))) :
    tLcW K (tVar 1) (gName 3) (tB (tOp (rIxT K) (tVar 3) (tC (.int 1)))) (tOp (rIxT K) (tVar 3) (tC (.int 0))) [3] σ H Q := by
  refine ⟨_, hσ, l, ts, fW H, rfl, SqL.of hl, fun a acc y ha hy => ?_, fun a ha => ?_⟩
  · obtain ⟨mk, t, rfl, ht⟩ := paired_right pr hy
    have ht2 : (upd H a (.lst acc)) t = some (.tup [.str mk.1, .bl mk.2.2]) := (same_new ha) _ _ ht
    refine ⟨rfl, hw _, ?_⟩
    simp only [tB, tOp, tVar, tC, hi, Option.some.injEq, exists_eq_left']
    refine ixT ht2 1 rfl ⟨_, rfl, rfl, ?_⟩
    rw [fW_at ht]
    cases mk.2.2 with
    | false => exact rfl
    | true => exact ⟨rfl, ixT ht2 0 rfl ⟨rfl, rfl⟩⟩
  · rw [marks_words pr]
    exact k a ha
theorem lst_marks {p : Addr × Obj} {σ : L2.St} {H : Hp} {Dn : Ends} {ms : List Mrk} (h0 : σ[0]? = some (some (.ref p.1))) (ok : ∀ mk ∈ ms, MrkOk K D mk) (dp : DictP H p.2) (few : ms.length ≤ 1000)
    (k : ∀ l' H' ts', Same H H' → H' l' = some (.lst ts') → Marks H' ms ts' → Dn.nx (σ.set 1 (some (.ref l'))) H') : tAsg (tLst (tMarks K D p ms)) (gName 1) Dn σ H := by
  refine marks_run h0 ms H _ ok dp fun ts H1 s1 pr => ⟨?_, fun l hl => ?_⟩
  · rw [← pr.length]
    exact small (by omega)
  · exact k l _ ts (s1.trans (same_new hl)) upd_same (pr.same (same_new hl))
theorem cat_marks {p : Addr × Obj} {σ : L2.St} {H : Hp} {Dn : Ends} {ms0 ms : List Mrk} {ts : List V} {l : Addr} (h0 : σ[0]? = some (some (.ref p.1))) (h1 : σ[1]? = some (some (.ref l))) (hl : H l = some (.lst ts)) (pr : Marks H ms0 ts) (ok : ∀ mk ∈ ms, MrkOk K D mk) (dp : DictP H p.2) (few : ms0.length + ms.length ≤ 1000)
    (k : ∀ l' H' ts', Same H H' → H' l' = some (.lst ts') → Marks H' (ms0 ++ ms) ts' → Dn.nx (σ.set 1 (some (.ref l'))) H') : tAsg (tOp rCat (tVar 1) (tLst (tMarks K D p ms))) (gName 1) Dn σ H := by
  refine ⟨_, h1, marks_run h0 ms H _ ok dp fun us H1 s1 pr1 => ⟨?_, fun a ha => ?_⟩⟩
  · rw [← pr1.length]
    exact small (by omega)
  · have s2 := s1.trans (same_new (o := .lst us) ha)
    refine ⟨l, a, ts, us, rfl, rfl, s2 _ _ hl, upd_same, ?_, fun b hb => ?_⟩
    · rw [← pr1.length, ← pr.length]
      exact small (by omega)
    · exact k b _ _ (s2.trans (same_new hb)) upd_same ((pr.same (s2.trans (same_new hb))).app (pr1.same ((same_new ha).trans (same_new hb))))
theorem asg_marks {σ : L2.St} {H : Hp} {Dn : Ends} {ms : List Mrk} {ts : List V} {l : Addr} (ws : List V) (hws : (ms.filter (fun mk => mk.2.2)).map (fun mk => V.str mk.1) = ws) (hσ : σ[1]? = some (some (.ref l))) (hl : H l = some (.lst ts)) (pr : Marks H ms ts)
    (hw : ∀ x, wipe ((wipe σ [3]).set 3 (some x)) [3] = wipe σ [3]) (hi : ∀ x : V, ((wipe σ [3]).set 3 (some x))[3]? = some (some x)) (k : ∀ a, H a = none → Dn.nx (σ.set 2 (some (.ref a))) (upd H a (.lst ws))) :
    tAsg (tLcW K (tVar 1) (gName 3) (tB (tOp (rIxT K) (tVar 3) (tC (.int 1)))) (tOp (rIxT K) (tVar 3) (tC (.int 0))) [3]) (gName 2) Dn σ H := lc_marks (Q := fun x H1 => gName 2 x σ H1 Dn.nx) hσ hl pr hw hi (by rw [hws]; exact k)
/-- found[0] in (..) -/
theorem in_test {H5 H : Hp} {fo : Addr} {z : Str} {r xs : List V} {n : Nat} {R : VK} {b : Bool} (s : Same H5 H) (f5 : H5 fo = some (.lst (.str z :: r))) (fl : xs.all flatV = true) (nz : inV (.str z) xs = b) (hn : n ≤ 16777216) (k : ∀ H', Same H5 H' → R (.bl b) H') :
    rIxL K (.ref fo) (.int 0) H fun x H1 => n ≤ sizeLine ∧ ∀ p, H1 p = none → rIn K false x (.ref p) (upd H1 p (.tup xs)) R := by
  refine ixL (SqL.of (s _ _ f5)) 0 rfl ⟨small hn, fun p hp => ⟨p, xs, rfl, .inr (sqT_of upd_same), rfl, fl, ?_⟩⟩
  rw [if_neg (by decide), nz]
  exact k _ (s.trans (same_new hp))
end
section
variable {P : Program} {w : World} {K : PySem.W.Frag} {mg : Str → Option Value} {base : Heap} {f fB fN fM CB CN CM : Addr} {fd fdB fdN fdM : FuncData}
theorem sd40 : FnScope ["e", "pairs", "found", "pair"] ["e"] (defScope (top 40)) := fnScope_by (by decide +kernel)
def spErrB (CB : Addr) (p : Addr × Obj) : Sp := fun vs H Q _ => ∃ (dd : Addr) (z : Str), vs = [.ref p.1] ∧ p.2.cls = .ref CB ∧ (∃ fs, p.2.data = .fields fs) ∧ p.2.dict = some dd ∧ H dd = some (.xd [("why", .str z)]) ∧ 0 < z.length ∧ z.length ≤ 1000 ∧
  ∀ H' l, Same H H' → H l = none → BadList H' l → Q (.ref l) H'
theorem ok_errB (m : Mg K mg) (B : Bad K mg CB fB fdB) (F : Fn K "_law_error" 40 f fd) (g : mg "_law_error" = some (.ref f)) : CalE P w K mg base 1 "_law_error" (spErrB CB) := by
  have sc := sd40
  refine calE F g sc (fun _ _ _ _ _ _ us hl => match us, hl with | [_], _ => rfl) ?_ fun p cdv A outer s H vs Q E hot hr h => ?_
  · rintro p vs H Q E ⟨dd, z, rfl, _⟩
    rfl
  · obtain ⟨dd, z, rfl, hc, hf, hdi, hdd, z0, z1, q⟩ := h
    have hp := hasP_cx (CX := C8.CX0) (P := P) (w := w) (K := K) (mg := mg) (base := base) (N := ["e", "pairs", "found", "pair"]) (qual := "_law_error") (scope := defScope (top 40)) (f := f) (cd := cdv) (outer := outer) (s := s) (H := H) (E := E) hot
    obtain ⟨C_BadBook, g_BadBook, _, k_BadBook⟩ := B.own "BadBook" (by decide)
    obtain ⟨C_BadTree, g_BadTree, _, k_BadTree⟩ := B.own "BadTree" (by decide)
    obtain ⟨C_BadForm, g_BadForm, _, k_BadForm⟩ := B.own "BadForm" (by decide)
    obtain ⟨C_BadPaper, g_BadPaper, _, k_BadPaper⟩ := B.own "BadPaper" (by decide)
    obtain ⟨C_BadDrawing, g_BadDrawing, _, k_BadDrawing⟩ := B.own "BadDrawing" (by decide)
    obtain ⟨C_BadScript, g_BadScript, _, k_BadScript⟩ := B.own "BadScript" (by decide)
    obtain ⟨C_BadPart, g_BadPart, _, k_BadPart⟩ := B.own "BadPart" (by decide)
    obtain ⟨C_BadNumber, g_BadNumber, _, k_BadNumber⟩ := B.own "BadNumber" (by decide)
    obtain ⟨C_BadLot, g_BadLot, _, k_BadLot⟩ := B.own "BadLot" (by decide)
    obtain ⟨C_NotOne, g_NotOne, _, k_NotOne⟩ := B.own "NotOne" (by decide)
    obtain ⟨C_Lied, g_Lied, _, k_Lied⟩ := B.own "Lied" (by decide)
    obtain ⟨C_Unlike, g_Unlike, _, k_Unlike⟩ := B.own "Unlike" (by decide)
    obtain ⟨C_TooMany, g_TooMany, _, k_TooMany⟩ := B.own "TooMany" (by decide)
    obtain ⟨C_NoSuch, g_NoSuch, _, k_NoSuch⟩ := B.own "NoSuch" (by decide)
    obtain ⟨C_Ended, g_Ended, _, k_Ended⟩ := B.own "Ended" (by decide)
    obtain ⟨g_ValueError, k_ValueError⟩ := B.blt "ValueError" (by decide)
    obtain ⟨g_LookupError, k_LookupError⟩ := B.blt "LookupError" (by decide)
    obtain ⟨g_RuntimeError, k_RuntimeError⟩ := B.blt "RuntimeError" (by decide)
    refine ⟨_, (pss_cons (ps_set (i := 1) sc.nd rfl (.inl rfl) (pe_lst (show PA _ _ (tMarks K CB p [("BadBook", .ref C_BadBook, false), ("BadTree", .ref C_BadTree, true), ("BadForm", .ref C_BadForm, false)]) from (pa_cons (pe_tup (pa_cons pe_str (pa_cons (pe_callB (call_isP hp.mem B.exc hc hf) (by rfl) m.isinstance_ boot_isinstance (pa_cons (pv 0) (pa_cons (pe_glob (v := .ref C_BadBook) (by rfl) g_BadBook rfl) pa_nil))) pa_nil)))
        (pa_cons (pe_tup (pa_cons pe_str (pa_cons (pe_callB (call_isP hp.mem B.exc hc hf) (by rfl) m.isinstance_ boot_isinstance (pa_cons (pv 0) (pa_cons (pe_glob (v := .ref C_BadTree) (by rfl) g_BadTree rfl) pa_nil))) pa_nil)))
        (pa_cons (pe_tup (pa_cons pe_str (pa_cons (pe_callB (call_isP hp.mem B.exc hc hf) (by rfl) m.isinstance_ boot_isinstance (pa_cons (pv 0) (pa_cons (pe_glob (v := .ref C_BadForm) (by rfl) g_BadForm rfl) pa_nil))) pa_nil)))
        pa_nil))))))
      (pss_cons (ps_set (i := 1) sc.nd rfl (.inl rfl) (pe_op op_cat (pv 1) (pe_lst (show PA _ _ (tMarks K CB p [("BadPaper", .ref C_BadPaper, false), ("BadDrawing", .ref C_BadDrawing, false), ("BadScript", .ref C_BadScript, false)]) from (pa_cons (pe_tup (pa_cons pe_str (pa_cons (pe_callB (call_isP hp.mem B.exc hc hf) (by rfl) m.isinstance_ boot_isinstance (pa_cons (pv 0) (pa_cons (pe_glob (v := .ref C_BadPaper) (by rfl) g_BadPaper rfl) pa_nil))) pa_nil)))
        (pa_cons (pe_tup (pa_cons pe_str (pa_cons (pe_callB (call_isP hp.mem B.exc hc hf) (by rfl) m.isinstance_ boot_isinstance (pa_cons (pv 0) (pa_cons (pe_glob (v := .ref C_BadDrawing) (by rfl) g_BadDrawing rfl) pa_nil))) pa_nil)))
        (pa_cons (pe_tup (pa_cons pe_str (pa_cons (pe_callB (call_isP hp.mem B.exc hc hf) (by rfl) m.isinstance_ boot_isinstance (pa_cons (pv 0) (pa_cons (pe_glob (v := .ref C_BadScript) (by rfl) g_BadScript rfl) pa_nil))) pa_nil)))
        pa_nil)))))))
      (pss_cons (ps_set (i := 1) sc.nd rfl (.inl rfl) (pe_op op_cat (pv 1) (pe_lst (show PA _ _ (tMarks K CB p [("BadPart", .ref C_BadPart, false), ("BadNumber", .ref C_BadNumber, false), ("BadLot", .ref C_BadLot, false)]) from (pa_cons (pe_tup (pa_cons pe_str (pa_cons (pe_callB (call_isP hp.mem B.exc hc hf) (by rfl) m.isinstance_ boot_isinstance (pa_cons (pv 0) (pa_cons (pe_glob (v := .ref C_BadPart) (by rfl) g_BadPart rfl) pa_nil))) pa_nil)))
        (pa_cons (pe_tup (pa_cons pe_str (pa_cons (pe_callB (call_isP hp.mem B.exc hc hf) (by rfl) m.isinstance_ boot_isinstance (pa_cons (pv 0) (pa_cons (pe_glob (v := .ref C_BadNumber) (by rfl) g_BadNumber rfl) pa_nil))) pa_nil)))
        (pa_cons (pe_tup (pa_cons pe_str (pa_cons (pe_callB (call_isP hp.mem B.exc hc hf) (by rfl) m.isinstance_ boot_isinstance (pa_cons (pv 0) (pa_cons (pe_glob (v := .ref C_BadLot) (by rfl) g_BadLot rfl) pa_nil))) pa_nil)))
        pa_nil)))))))
      (pss_cons (ps_set (i := 1) sc.nd rfl (.inl rfl) (pe_op op_cat (pv 1) (pe_lst (show PA _ _ (tMarks K CB p [("NotOne", .ref C_NotOne, false), ("Lied", .ref C_Lied, false), ("Unlike", .ref C_Unlike, false)]) from (pa_cons (pe_tup (pa_cons pe_str (pa_cons (pe_callB (call_isP hp.mem B.exc hc hf) (by rfl) m.isinstance_ boot_isinstance (pa_cons (pv 0) (pa_cons (pe_glob (v := .ref C_NotOne) (by rfl) g_NotOne rfl) pa_nil))) pa_nil)))
        (pa_cons (pe_tup (pa_cons pe_str (pa_cons (pe_callB (call_isP hp.mem B.exc hc hf) (by rfl) m.isinstance_ boot_isinstance (pa_cons (pv 0) (pa_cons (pe_glob (v := .ref C_Lied) (by rfl) g_Lied rfl) pa_nil))) pa_nil)))
        (pa_cons (pe_tup (pa_cons pe_str (pa_cons (pe_callB (call_isP hp.mem B.exc hc hf) (by rfl) m.isinstance_ boot_isinstance (pa_cons (pv 0) (pa_cons (pe_glob (v := .ref C_Unlike) (by rfl) g_Unlike rfl) pa_nil))) pa_nil)))
        pa_nil)))))))
      (pss_cons (ps_set (i := 1) sc.nd rfl (.inl rfl) (pe_op op_cat (pv 1) (pe_lst (show PA _ _ (tMarks K CB p [("TooMany", .ref C_TooMany, false), ("NoSuch", .ref C_NoSuch, false), ("Ended", .ref C_Ended, false)]) from (pa_cons (pe_tup (pa_cons pe_str (pa_cons (pe_callB (call_isP hp.mem B.exc hc hf) (by rfl) m.isinstance_ boot_isinstance (pa_cons (pv 0) (pa_cons (pe_glob (v := .ref C_TooMany) (by rfl) g_TooMany rfl) pa_nil))) pa_nil)))
        (pa_cons (pe_tup (pa_cons pe_str (pa_cons (pe_callB (call_isP hp.mem B.exc hc hf) (by rfl) m.isinstance_ boot_isinstance (pa_cons (pv 0) (pa_cons (pe_glob (v := .ref C_NoSuch) (by rfl) g_NoSuch rfl) pa_nil))) pa_nil)))
        (pa_cons (pe_tup (pa_cons pe_str (pa_cons (pe_callB (call_isP hp.mem B.exc hc hf) (by rfl) m.isinstance_ boot_isinstance (pa_cons (pv 0) (pa_cons (pe_glob (v := .ref C_Ended) (by rfl) g_Ended rfl) pa_nil))) pa_nil)))
        pa_nil)))))))
      (pss_cons (ps_setLcW (i := 2) (own := [("pair", 3)]) (g := gName 3) hp.warm sc.nd rfl rfl (sw_true rfl rfl rfl (by decide +kernel)) (pv 1) (blkOk_by (own := [("pair", 3)]) (N := ["e", "pairs", "found", "pair"]) (sc := defScope (top 40)) (by decide +kernel)) (fun _ _ _ _ _ => pg_name (i := 3) sc.nd rfl (.inl rfl)) (fun _ _ _ _ _ => pts_one (pt_val (pe_ix (show IxR _ (rIxT K) from ix_tup) (pv 3) pe_int (fun _ _ => rfl)))) (fun _ _ _ _ _ => pe_ix (show IxR _ (rIxT K) from ix_tup) (pv 3) pe_int (fun _ _ => rfl)))
      (pss_cons (ps_if (pt_cmpR op_in_seq (pe_ix ix_list (pv 2) pe_int (fun _ _ => rfl)) (pe_tup (pa_cons pe_str (pa_cons pe_str (pa_cons pe_str (pa_cons pe_str (pa_cons pe_str pa_nil)))))) rfl)
        (pss_one ps_never)
        (pss_one (ps_if (pt_cmpR op_in_seq (pe_ix ix_list (pv 2) pe_int (fun _ _ => rfl)) (pe_tup (pa_cons pe_str (pa_cons pe_str pa_nil))) rfl)
        (pss_one ps_never)
        (pss_one (ps_if (pt_cmpR op_in_seq (pe_ix ix_list (pv 2) pe_int (fun _ _ => rfl)) (pe_tup (pa_cons pe_str (pa_cons pe_str (pa_cons pe_str pa_nil)))) rfl)
        (pss_one ps_never)
        (pss_one (ps_if (pt_cmpR op_in_seq (pe_ix ix_list (pv 2) pe_int (fun _ _ => rfl)) (pe_tup (pa_cons pe_str (pa_cons pe_str (pa_cons pe_str pa_nil)))) rfl)
        (pss_one ps_never)
        pss_nil)))))))
      (pss_cons (ps_if ((pw_and (pt_cmpR op_eq (pe_slice sl_txt (pe_ix ix_list (pv 2) pe_int (fun _ _ => rfl)) po_none (po_some pe_int)) pe_str (nomark _)) (pw_and1 (pt_cmpR op_ne (pe_ix ix_list (pv 2) pe_int (fun _ _ => rfl)) pe_str (nomark _)))).pt)
        (pss_one (ps_set (i := 2) sc.nd rfl (.inl rfl) (pe_op op_cat (pv 2) (pe_lst (pa_cons (pe_ifExp ((pw_and (pt_val (pe_callB call_isB (by rfl) m.isinstance_ boot_isinstance (pa_cons (pe_xp hp.mem B.xf B.noF hf (pv 0)) (pa_cons (pe_bltn (v := .ty "str") (by rfl) m.str_ boot_str rfl) pa_nil)))) (pw_and1 (pt_cmpR op_gt (pe_callB call_len (by rfl) m.len_ boot_len (pa_cons (pe_xp hp.mem B.xf B.noF hf (pv 0)) pa_nil)) pe_int (nomark _)))).pt) (pe_tup (pa_cons pe_str pa_nil)) (pe_tup (pa_cons pe_str pa_nil))) pa_nil)))))
        pss_nil)
      (pss_cons (ps_set (i := 1) sc.nd rfl (.inl rfl) (pe_lst (show PA _ _ (tMarks K CB p [("ValueError", .ty "ValueError", true), ("LookupError", .ty "LookupError", false), ("RuntimeError", .ty "RuntimeError", false)]) from (pa_cons (pe_tup (pa_cons pe_str (pa_cons (pe_callB (call_isP hp.mem B.exc hc hf) (by rfl) m.isinstance_ boot_isinstance (pa_cons (pv 0) (pa_cons (pe_bltn (v := .ty "ValueError") (by rfl) g_ValueError bootX_ValueError rfl) pa_nil))) pa_nil)))
        (pa_cons (pe_tup (pa_cons pe_str (pa_cons (pe_callB (call_isP hp.mem B.exc hc hf) (by rfl) m.isinstance_ boot_isinstance (pa_cons (pv 0) (pa_cons (pe_bltn (v := .ty "LookupError") (by rfl) g_LookupError bootX_LookupError rfl) pa_nil))) pa_nil)))
        (pa_cons (pe_tup (pa_cons pe_str (pa_cons (pe_callB (call_isP hp.mem B.exc hc hf) (by rfl) m.isinstance_ boot_isinstance (pa_cons (pv 0) (pa_cons (pe_bltn (v := .ty "RuntimeError") (by rfl) g_RuntimeError bootX_RuntimeError rfl) pa_nil))) pa_nil)))
        pa_nil))))))
      (pss_one (ps_ret (pe_op op_cat (pv 2) (pe_lcW (own := [("pair", 3)]) (g := gName 3) hp.warm sc.nd (pv 1) (blkOk_by (own := [("pair", 3)]) (N := ["e", "pairs", "found", "pair"]) (sc := defScope (top 40)) (by decide +kernel)) (fun _ _ _ _ _ => pg_name (i := 3) sc.nd rfl (.inl rfl)) (fun _ _ _ _ _ => pts_one (pt_val (pe_ix (show IxR _ (rIxT K) from ix_tup) (pv 3) pe_int (fun _ _ => rfl)))) (fun _ _ _ _ _ => pe_ix (show IxR _ (rIxT K) from ix_tup) (pv 3) pe_int (fun _ _ => rfl))))))))))))))), ?_⟩
    have dP : ∀ {H' : Hp}, Same H H' → DictP H' p.2 := fun e => .inr ⟨dd, _, hdi, e _ _ hdd⟩
    refine lst_marks rfl (by
      intro mk hm
      simp only [List.mem_cons, List.not_mem_nil, or_false] at hm
      rcases hm with rfl | rfl | rfl
      · exact ⟨_, fun u r => r, k_BadBook⟩
      · exact ⟨_, fun u r => r, k_BadTree⟩
      · exact ⟨_, fun u r => r, k_BadForm⟩) (dP (Same.refl H)) (by simp) fun l0 H0 ts0 s0 e0 pr0 => ?_
    refine cat_marks rfl rfl e0 pr0 (by
      intro mk hm
      simp only [List.mem_cons, List.not_mem_nil, or_false] at hm
      rcases hm with rfl | rfl | rfl
      · exact ⟨_, fun u r => r, k_BadPaper⟩
      · exact ⟨_, fun u r => r, k_BadDrawing⟩
      · exact ⟨_, fun u r => r, k_BadScript⟩) (dP s0) (by simp) fun l1 H1 ts1 s1 e1 pr1 => ?_
    have s1 := s0.trans s1
    refine cat_marks rfl rfl e1 pr1 (by
      intro mk hm
      simp only [List.mem_cons, List.not_mem_nil, or_false] at hm
      rcases hm with rfl | rfl | rfl
      · exact ⟨_, fun u r => r, k_BadPart⟩
      · exact ⟨_, fun u r => r, k_BadNumber⟩
      · exact ⟨_, fun u r => r, k_BadLot⟩) (dP s1) (by simp) fun l2 H2 ts2 s2 e2 pr2 => ?_
    have s2 := s1.trans s2
    refine cat_marks rfl rfl e2 pr2 (by
      intro mk hm
      simp only [List.mem_cons, List.not_mem_nil, or_false] at hm
      rcases hm with rfl | rfl | rfl
      · exact ⟨_, fun u r => r, k_NotOne⟩
      · exact ⟨_, fun u r => r, k_Lied⟩
      · exact ⟨_, fun u r => r, k_Unlike⟩) (dP s2) (by simp) fun l3 H3 ts3 s3 e3 pr3 => ?_
    have s3 := s2.trans s3
    refine cat_marks rfl rfl e3 pr3 (by
      intro mk hm
      simp only [List.mem_cons, List.not_mem_nil, or_false] at hm
      rcases hm with rfl | rfl | rfl
      · exact ⟨_, fun u r => r, k_TooMany⟩
      · exact ⟨_, fun u r => r, k_NoSuch⟩
      · exact ⟨_, fun u r => r, k_Ended⟩) (dP s3) (by simp) fun l4 H4 ts4 s4 e4 pr4 => ?_
    have s4 := s3.trans s4
    refine asg_marks [.str "BadTree"] rfl rfl e4 pr4 (fun _ => rfl) (fun _ => rfl) fun fo hfo => ?_
    have s5 := s4.trans (same_new (o := .lst [.str "BadTree"]) hfo)
    have n5 : H fo = none := s4.free hfo
    have f5 : (upd H4 fo (.lst [.str "BadTree"])) fo = some (.lst [.str "BadTree"]) := upd_same
    have dd5 := s5 _ _ hdd
    generalize upd H4 fo (.lst [.str "BadTree"]) = H5 at s5 f5 dd5
    have ix0 : ∀ {H' : Hp} {R : VK}, Same H5 H' → R (.str "BadTree") H' → rIxL K (.ref fo) (.int ((0 : Nat) : Int)) H' R := fun e k => ixL (SqL.of (e _ _ f5)) 0 rfl k
    simp only [L2.start, cxOf, tRet, tAndV, tOrV, tNotV, tCB, tCons, tNil, tVar, tC, tOp, tUn, tTest, tB, tIf, tIfS, tSeq, tAsg, tAnd, tOr, tNot, gName, tNext, tCall, tChain, rI, rI0, rEq, rNe, rGcd, rU, tM1, tM0, tSl, tPart, tNoPart, gTup, gCons, gNil, gSub, tTup, tLst, tPar, L2.rI, List.map_cons, List.map_nil, List.length_cons, List.length_nil, List.cons_append, List.nil_append, List.append_nil, List.getElem?_cons_zero, List.getElem?_cons_succ, List.set_cons_zero, List.set_cons_succ, Option.some.injEq, exists_eq_left, exists_eq_left', exists_eq_right, exists_and_left, exists_and_right, List.cons.injEq, and_true, true_and, V.int.injEq, V.str.injEq, V.bl.injEq, V.ref.injEq, List.replicate, Nat.reduceAdd, Nat.reduceSub, reduceCtorEq, false_and, and_false, if_true, if_false, Bool.false_eq_true, Bool.not_true, Bool.not_false, decide_eq_true_eq, exists_false, or_false, false_or, List.set_cons_zero, L2H.cxH]
    refine in_test (Same.refl H5) f5 (by decide) (b := false) (by decide +kernel) (by decide) fun J1 t1 => ⟨_, rfl, ?_⟩
    rw [if_neg (by decide)]
    refine in_test t1 f5 (by decide) (b := false) (by decide +kernel) (by decide) fun J2 t2 => ⟨_, rfl, ?_⟩
    rw [if_neg (by decide)]
    refine in_test t2 f5 (by decide) (b := false) (by decide +kernel) (by decide) fun J3 t3 => ⟨_, rfl, ?_⟩
    rw [if_neg (by decide)]
    refine in_test t3 f5 (by decide) (b := false) (by decide +kernel) (by decide) fun J4 t4 => ⟨_, rfl, ?_⟩
    rw [if_neg (by decide)]
    simp only [L2.start, cxOf, tRet, tAndV, tOrV, tNotV, tCB, tCons, tNil, tVar, tC, tOp, tUn, tTest, tB, tIf, tIfS, tSeq, tAsg, tAnd, tOr, tNot, gName, tNext, tCall, tChain, rI, rI0, rEq, rNe, rGcd, rU, tM1, tM0, tSl, tPart, tNoPart, gTup, gCons, gNil, gSub, tTup, tLst, tPar, L2.rI, List.map_cons, List.map_nil, List.length_cons, List.length_nil, List.cons_append, List.nil_append, List.append_nil, List.getElem?_cons_zero, List.getElem?_cons_succ, List.set_cons_zero, List.set_cons_succ, Option.some.injEq, exists_eq_left, exists_eq_left', exists_eq_right, exists_and_left, exists_and_right, List.cons.injEq, and_true, true_and, V.int.injEq, V.str.injEq, V.bl.injEq, V.ref.injEq, List.replicate, Nat.reduceAdd, Nat.reduceSub, reduceCtorEq, false_and, and_false, if_true, if_false, Bool.false_eq_true, Bool.not_true, Bool.not_false, decide_eq_true_eq, exists_false, or_false, false_or, rSlX]
    have xw : ∀ {H' : Hp} {R : VK} {y1 y2 y3 : Option V}, Same H5 H' → R (.str z) H' → tXp CB p "why" (tVar 0) [some (.ref p.1), y1, y2, y3] H' R := fun e k => ⟨_, rfl, rfl, hc, dd, _, _, hdi, e _ _ dd5, rfl, k⟩
    have szl := sizeLine_eq
    refine ix0 t4 ⟨_, rfl, small (by decide +kernel), rfl, ?_⟩
    rw [if_pos (by decide +kernel)]
    refine ix0 t4 ⟨rfl, ?_⟩
    rw [if_pos (by decide +kernel)]
    refine xw t4 (rIsB_i kd_str ⟨true, by decide, ?_⟩)
    rw [if_pos rfl]
    refine xw t4 ⟨z.length, ⟨by omega, rfl⟩, ?_⟩
    rw [if_pos (by omega)]
    refine ⟨small (by decide), fun p1 h1 => ⟨small (by decide), fun p2 h2 => ?_⟩⟩
    have t5 := Same.trans t4 (same_new (o := .tup [V.str "why"]) h1)
    have k1 := upd_same (H := J4) (a := p1) (o := .tup [V.str "why"])
    generalize upd J4 p1 (.tup [V.str "why"]) = J5 at t5 k1 h2 ⊢
    have t6 := Same.trans t5 (same_new (o := .lst [V.ref p1]) h2)
    refine ⟨fo, p2, _, _, rfl, rfl, t6 _ _ f5, upd_same, small (show (2 : Nat) ≤ 16777216 by decide), fun fo2 hf2 => ?_⟩
    have k2 := same_new (o := .lst ([V.str "BadTree"] ++ [V.ref p1])) hf2 _ _ (same_new (o := .lst [V.ref p1]) h2 _ _ k1)
    have t7 := Same.trans t6 (same_new (o := .lst ([V.str "BadTree"] ++ [V.ref p1])) hf2)
    have n7 := (s5.trans t6).free hf2
    have k3 := upd_same (H := upd J5 p2 (.lst [V.ref p1])) (a := fo2) (o := .lst ([V.str "BadTree"] ++ [V.ref p1]))
    generalize upd (upd J5 p2 (.lst [V.ref p1])) fo2 (.lst ([V.str "BadTree"] ++ [V.ref p1])) = J7 at t7 k2 k3 ⊢
    refine marks_run rfl _ _ _ (by
      intro mk hm
      simp only [List.mem_cons, List.not_mem_nil, or_false] at hm
      rcases hm with rfl | rfl | rfl
      · exact ⟨_, fun u r => r, k_ValueError⟩
      · exact ⟨_, fun u r => r, k_LookupError⟩
      · exact ⟨_, fun u r => r, k_RuntimeError⟩) (dP (s5.trans t7)) fun us H8 s8 pr8 => ⟨?_, fun l5 hl5 => ?_⟩
    · rw [← pr8.length]
      exact small (by simp)
    · have s9 := s8.trans (same_new (o := .lst us) hl5)
      refine lc_marks rfl upd_same (pr8.same (same_new hl5)) (fun _ => rfl) (fun _ => rfl) fun a ha => ?_
      have s10 := s9.trans (same_new (o := .lst [V.str "ValueError"]) ha)
      refine ⟨fo2, a, _, _, rfl, rfl, s10 _ _ k3, upd_same, small (show (3 : Nat) ≤ 16777216 by decide), fun b hb => ?_⟩
      have s11 := s10.trans (same_new (o := .lst [V.str "BadTree", V.ref p1, V.str "ValueError"]) hb)
      exact q _ b ((s5.trans t7).trans s11) ((s5.trans t7).free (s10.free hb)) ⟨p1, upd_same, s11 _ _ k2⟩
def spErrS (CN : Addr) (p : Addr × Obj) : Sp := fun vs H Q _ => ∃ (dd : Addr) (v : V), vs = [.ref p.1] ∧ p.2.cls = .ref CN ∧ (∃ fs, p.2.data = .fields fs) ∧ p.2.dict = some dd ∧ H dd = some (.xd [("name", v)]) ∧
  ∀ H' l, Same H H' → H l = none → H' l = some (.lst [.str "NoSuch", v, .str "LookupError"]) → Q (.ref l) H'
def spErrM (CM : Addr) (p : Addr × Obj) : Sp := fun vs H Q _ => ∃ (dd : Addr) (v b : V), vs = [.ref p.1] ∧ p.2.cls = .ref CM ∧ (∃ fs, p.2.data = .fields fs) ∧ p.2.dict = some dd ∧ H dd = some (.xd [("bound", b), ("what", v)]) ∧
  ∀ H' l, Same H H' → H l = none → H' l = some (.lst [.str "TooMany", v, b, .str "ValueError"]) → Q (.ref l) H'
/-- both that the second handler catches -/
def spErrSM (CN CM : Addr) (p : Addr × Obj) : Sp := fun vs H Q E => spErrS CN p vs H Q E ∨ spErrM CM p vs H Q E
theorem ok_errSM (m : Mg K mg) (N : NoS K mg CN fN fdN) (M : TooM K mg CM fM fdM) (F : Fn K "_law_error" 40 f fd) (g : mg "_law_error" = some (.ref f)) : CalE P w K mg base 1 "_law_error" (spErrSM CN CM) := by
  have sc := sd40
  refine calE F g sc (fun _ _ _ _ _ _ us hl => match us, hl with | [_], _ => rfl) ?_ fun p cdv A outer s H vs Q E hot hr h => ?_
  · rintro p vs H Q E (⟨dd, z, rfl, _⟩ | ⟨dd, z, b, rfl, _⟩)
    · rfl
    · rfl
  · rcases h with h | h
    · have B := N
      obtain ⟨dd, z, rfl, hc, hf, hdi, hdd, q⟩ := h
      have hp := hasP_cx (CX := C8.CX0) (P := P) (w := w) (K := K) (mg := mg) (base := base) (N := ["e", "pairs", "found", "pair"]) (qual := "_law_error") (scope := defScope (top 40)) (f := f) (cd := cdv) (outer := outer) (s := s) (H := H) (E := E) hot
      obtain ⟨C_BadBook, g_BadBook, _, k_BadBook⟩ := B.own "BadBook" (by decide)
      obtain ⟨C_BadTree, g_BadTree, _, k_BadTree⟩ := B.own "BadTree" (by decide)
      obtain ⟨C_BadForm, g_BadForm, _, k_BadForm⟩ := B.own "BadForm" (by decide)
      obtain ⟨C_BadPaper, g_BadPaper, _, k_BadPaper⟩ := B.own "BadPaper" (by decide)
      obtain ⟨C_BadDrawing, g_BadDrawing, _, k_BadDrawing⟩ := B.own "BadDrawing" (by decide)
      obtain ⟨C_BadScript, g_BadScript, _, k_BadScript⟩ := B.own "BadScript" (by decide)
      obtain ⟨C_BadPart, g_BadPart, _, k_BadPart⟩ := B.own "BadPart" (by decide)
      obtain ⟨C_BadNumber, g_BadNumber, _, k_BadNumber⟩ := B.own "BadNumber" (by decide)
      obtain ⟨C_BadLot, g_BadLot, _, k_BadLot⟩ := B.own "BadLot" (by decide)
      obtain ⟨C_NotOne, g_NotOne, _, k_NotOne⟩ := B.own "NotOne" (by decide)
      obtain ⟨C_Lied, g_Lied, _, k_Lied⟩ := B.own "Lied" (by decide)
      obtain ⟨C_Unlike, g_Unlike, _, k_Unlike⟩ := B.own "Unlike" (by decide)
      obtain ⟨C_TooMany, g_TooMany, _, k_TooMany⟩ := B.own "TooMany" (by decide)
      obtain ⟨C_NoSuch, g_NoSuch, _, k_NoSuch⟩ := B.own "NoSuch" (by decide)
      obtain ⟨C_Ended, g_Ended, _, k_Ended⟩ := B.own "Ended" (by decide)
      obtain ⟨g_ValueError, k_ValueError⟩ := B.blt "ValueError" (by decide)
      obtain ⟨g_LookupError, k_LookupError⟩ := B.blt "LookupError" (by decide)
      obtain ⟨g_RuntimeError, k_RuntimeError⟩ := B.blt "RuntimeError" (by decide)
      refine ⟨_, (pss_cons (ps_set (i := 1) sc.nd rfl (.inl rfl) (pe_lst (show PA _ _ (tMarks K CN p [("BadBook", .ref C_BadBook, false), ("BadTree", .ref C_BadTree, false), ("BadForm", .ref C_BadForm, false)]) from (pa_cons (pe_tup (pa_cons pe_str (pa_cons (pe_callB (call_isP hp.mem B.exc hc hf) (by rfl) m.isinstance_ boot_isinstance (pa_cons (pv 0) (pa_cons (pe_glob (v := .ref C_BadBook) (by rfl) g_BadBook rfl) pa_nil))) pa_nil)))
        (pa_cons (pe_tup (pa_cons pe_str (pa_cons (pe_callB (call_isP hp.mem B.exc hc hf) (by rfl) m.isinstance_ boot_isinstance (pa_cons (pv 0) (pa_cons (pe_glob (v := .ref C_BadTree) (by rfl) g_BadTree rfl) pa_nil))) pa_nil)))
        (pa_cons (pe_tup (pa_cons pe_str (pa_cons (pe_callB (call_isP hp.mem B.exc hc hf) (by rfl) m.isinstance_ boot_isinstance (pa_cons (pv 0) (pa_cons (pe_glob (v := .ref C_BadForm) (by rfl) g_BadForm rfl) pa_nil))) pa_nil)))
        pa_nil))))))
      (pss_cons (ps_set (i := 1) sc.nd rfl (.inl rfl) (pe_op op_cat (pv 1) (pe_lst (show PA _ _ (tMarks K CN p [("BadPaper", .ref C_BadPaper, false), ("BadDrawing", .ref C_BadDrawing, false), ("BadScript", .ref C_BadScript, false)]) from (pa_cons (pe_tup (pa_cons pe_str (pa_cons (pe_callB (call_isP hp.mem B.exc hc hf) (by rfl) m.isinstance_ boot_isinstance (pa_cons (pv 0) (pa_cons (pe_glob (v := .ref C_BadPaper) (by rfl) g_BadPaper rfl) pa_nil))) pa_nil)))
        (pa_cons (pe_tup (pa_cons pe_str (pa_cons (pe_callB (call_isP hp.mem B.exc hc hf) (by rfl) m.isinstance_ boot_isinstance (pa_cons (pv 0) (pa_cons (pe_glob (v := .ref C_BadDrawing) (by rfl) g_BadDrawing rfl) pa_nil))) pa_nil)))
        (pa_cons (pe_tup (pa_cons pe_str (pa_cons (pe_callB (call_isP hp.mem B.exc hc hf) (by rfl) m.isinstance_ boot_isinstance (pa_cons (pv 0) (pa_cons (pe_glob (v := .ref C_BadScript) (by rfl) g_BadScript rfl) pa_nil))) pa_nil)))
        pa_nil)))))))
      (pss_cons (ps_set (i := 1) sc.nd rfl (.inl rfl) (pe_op op_cat (pv 1) (pe_lst (show PA _ _ (tMarks K CN p [("BadPart", .ref C_BadPart, false), ("BadNumber", .ref C_BadNumber, false), ("BadLot", .ref C_BadLot, false)]) from (pa_cons (pe_tup (pa_cons pe_str (pa_cons (pe_callB (call_isP hp.mem B.exc hc hf) (by rfl) m.isinstance_ boot_isinstance (pa_cons (pv 0) (pa_cons (pe_glob (v := .ref C_BadPart) (by rfl) g_BadPart rfl) pa_nil))) pa_nil)))
        (pa_cons (pe_tup (pa_cons pe_str (pa_cons (pe_callB (call_isP hp.mem B.exc hc hf) (by rfl) m.isinstance_ boot_isinstance (pa_cons (pv 0) (pa_cons (pe_glob (v := .ref C_BadNumber) (by rfl) g_BadNumber rfl) pa_nil))) pa_nil)))
        (pa_cons (pe_tup (pa_cons pe_str (pa_cons (pe_callB (call_isP hp.mem B.exc hc hf) (by rfl) m.isinstance_ boot_isinstance (pa_cons (pv 0) (pa_cons (pe_glob (v := .ref C_BadLot) (by rfl) g_BadLot rfl) pa_nil))) pa_nil)))
        pa_nil)))))))
      (pss_cons (ps_set (i := 1) sc.nd rfl (.inl rfl) (pe_op op_cat (pv 1) (pe_lst (show PA _ _ (tMarks K CN p [("NotOne", .ref C_NotOne, false), ("Lied", .ref C_Lied, false), ("Unlike", .ref C_Unlike, false)]) from (pa_cons (pe_tup (pa_cons pe_str (pa_cons (pe_callB (call_isP hp.mem B.exc hc hf) (by rfl) m.isinstance_ boot_isinstance (pa_cons (pv 0) (pa_cons (pe_glob (v := .ref C_NotOne) (by rfl) g_NotOne rfl) pa_nil))) pa_nil)))
        (pa_cons (pe_tup (pa_cons pe_str (pa_cons (pe_callB (call_isP hp.mem B.exc hc hf) (by rfl) m.isinstance_ boot_isinstance (pa_cons (pv 0) (pa_cons (pe_glob (v := .ref C_Lied) (by rfl) g_Lied rfl) pa_nil))) pa_nil)))
        (pa_cons (pe_tup (pa_cons pe_str (pa_cons (pe_callB (call_isP hp.mem B.exc hc hf) (by rfl) m.isinstance_ boot_isinstance (pa_cons (pv 0) (pa_cons (pe_glob (v := .ref C_Unlike) (by rfl) g_Unlike rfl) pa_nil))) pa_nil)))
        pa_nil)))))))
      (pss_cons (ps_set (i := 1) sc.nd rfl (.inl rfl) (pe_op op_cat (pv 1) (pe_lst (show PA _ _ (tMarks K CN p [("TooMany", .ref C_TooMany, false), ("NoSuch", .ref C_NoSuch, true), ("Ended", .ref C_Ended, false)]) from (pa_cons (pe_tup (pa_cons pe_str (pa_cons (pe_callB (call_isP hp.mem B.exc hc hf) (by rfl) m.isinstance_ boot_isinstance (pa_cons (pv 0) (pa_cons (pe_glob (v := .ref C_TooMany) (by rfl) g_TooMany rfl) pa_nil))) pa_nil)))
        (pa_cons (pe_tup (pa_cons pe_str (pa_cons (pe_callB (call_isP hp.mem B.exc hc hf) (by rfl) m.isinstance_ boot_isinstance (pa_cons (pv 0) (pa_cons (pe_glob (v := .ref C_NoSuch) (by rfl) g_NoSuch rfl) pa_nil))) pa_nil)))
        (pa_cons (pe_tup (pa_cons pe_str (pa_cons (pe_callB (call_isP hp.mem B.exc hc hf) (by rfl) m.isinstance_ boot_isinstance (pa_cons (pv 0) (pa_cons (pe_glob (v := .ref C_Ended) (by rfl) g_Ended rfl) pa_nil))) pa_nil)))
        pa_nil)))))))
      (pss_cons (ps_setLcW (i := 2) (own := [("pair", 3)]) (g := gName 3) hp.warm sc.nd rfl rfl (sw_true rfl rfl rfl (by decide +kernel)) (pv 1) (blkOk_by (own := [("pair", 3)]) (N := ["e", "pairs", "found", "pair"]) (sc := defScope (top 40)) (by decide +kernel)) (fun _ _ _ _ _ => pg_name (i := 3) sc.nd rfl (.inl rfl)) (fun _ _ _ _ _ => pts_one (pt_val (pe_ix (show IxR _ (rIxT K) from ix_tup) (pv 3) pe_int (fun _ _ => rfl)))) (fun _ _ _ _ _ => pe_ix (show IxR _ (rIxT K) from ix_tup) (pv 3) pe_int (fun _ _ => rfl)))
      (pss_cons (ps_if (pt_cmpR op_in_seq (pe_ix ix_list (pv 2) pe_int (fun _ _ => rfl)) (pe_tup (pa_cons pe_str (pa_cons pe_str (pa_cons pe_str (pa_cons pe_str (pa_cons pe_str pa_nil)))))) rfl)
        (pss_one ps_never)
        (pss_one (ps_if (pt_cmpR op_in_seq (pe_ix ix_list (pv 2) pe_int (fun _ _ => rfl)) (pe_tup (pa_cons pe_str (pa_cons pe_str pa_nil))) rfl)
        (pss_one ps_never)
        (pss_one (ps_if (pt_cmpR op_in_seq (pe_ix ix_list (pv 2) pe_int (fun _ _ => rfl)) (pe_tup (pa_cons pe_str (pa_cons pe_str (pa_cons pe_str pa_nil)))) rfl)
        (pss_one (ps_set (i := 2) sc.nd rfl (.inl rfl) (pe_op op_cat (pv 2) (pe_lst (pa_cons (pe_ifExp (pt_cmpR op_eq (pe_ix ix_list (pv 2) pe_int (fun _ _ => rfl)) pe_str (nomark _)) pe_never (pe_ifExp (pt_cmpR op_eq (pe_ix ix_list (pv 2) pe_int (fun _ _ => rfl)) pe_str (nomark _)) pe_never (pe_xp hp.mem B.xf B.noF hf (pv 0)))) pa_nil)))))
        (pss_one (ps_if (pt_cmpR op_in_seq (pe_ix ix_list (pv 2) pe_int (fun _ _ => rfl)) (pe_tup (pa_cons pe_str (pa_cons pe_str (pa_cons pe_str pa_nil)))) rfl)
        (pss_one ps_never)
        pss_nil)))))))
      (pss_cons (ps_if ((pw_and (pt_cmpR op_eq (pe_slice sl_txt (pe_ix ix_list (pv 2) pe_int (fun _ _ => rfl)) po_none (po_some pe_int)) pe_str (nomark _)) (pw_and1 (pt_cmpR op_ne (pe_ix ix_list (pv 2) pe_int (fun _ _ => rfl)) pe_str (nomark _)))).pt)
        (pss_one ps_never)
        pss_nil)
      (pss_cons (ps_set (i := 1) sc.nd rfl (.inl rfl) (pe_lst (show PA _ _ (tMarks K CN p [("ValueError", .ty "ValueError", false), ("LookupError", .ty "LookupError", true), ("RuntimeError", .ty "RuntimeError", false)]) from (pa_cons (pe_tup (pa_cons pe_str (pa_cons (pe_callB (call_isP hp.mem B.exc hc hf) (by rfl) m.isinstance_ boot_isinstance (pa_cons (pv 0) (pa_cons (pe_bltn (v := .ty "ValueError") (by rfl) g_ValueError bootX_ValueError rfl) pa_nil))) pa_nil)))
        (pa_cons (pe_tup (pa_cons pe_str (pa_cons (pe_callB (call_isP hp.mem B.exc hc hf) (by rfl) m.isinstance_ boot_isinstance (pa_cons (pv 0) (pa_cons (pe_bltn (v := .ty "LookupError") (by rfl) g_LookupError bootX_LookupError rfl) pa_nil))) pa_nil)))
        (pa_cons (pe_tup (pa_cons pe_str (pa_cons (pe_callB (call_isP hp.mem B.exc hc hf) (by rfl) m.isinstance_ boot_isinstance (pa_cons (pv 0) (pa_cons (pe_bltn (v := .ty "RuntimeError") (by rfl) g_RuntimeError bootX_RuntimeError rfl) pa_nil))) pa_nil)))
        pa_nil))))))
      (pss_one (ps_ret (pe_op op_cat (pv 2) (pe_lcW (own := [("pair", 3)]) (g := gName 3) hp.warm sc.nd (pv 1) (blkOk_by (own := [("pair", 3)]) (N := ["e", "pairs", "found", "pair"]) (sc := defScope (top 40)) (by decide +kernel)) (fun _ _ _ _ _ => pg_name (i := 3) sc.nd rfl (.inl rfl)) (fun _ _ _ _ _ => pts_one (pt_val (pe_ix (show IxR _ (rIxT K) from ix_tup) (pv 3) pe_int (fun _ _ => rfl)))) (fun _ _ _ _ _ => pe_ix (show IxR _ (rIxT K) from ix_tup) (pv 3) pe_int (fun _ _ => rfl))))))))))))))), ?_⟩
      have dP : ∀ {H' : Hp}, Same H H' → DictP H' p.2 := fun e => .inr ⟨dd, _, hdi, e _ _ hdd⟩
      refine lst_marks rfl (by
      intro mk hm
      simp only [List.mem_cons, List.not_mem_nil, or_false] at hm
      rcases hm with rfl | rfl | rfl
      · exact ⟨_, fun u r => r, k_BadBook⟩
      · exact ⟨_, fun u r => r, k_BadTree⟩
      · exact ⟨_, fun u r => r, k_BadForm⟩) (dP (Same.refl H)) (by simp) fun l0 H0 ts0 s0 e0 pr0 => ?_
      refine cat_marks rfl rfl e0 pr0 (by
      intro mk hm
      simp only [List.mem_cons, List.not_mem_nil, or_false] at hm
      rcases hm with rfl | rfl | rfl
      · exact ⟨_, fun u r => r, k_BadPaper⟩
      · exact ⟨_, fun u r => r, k_BadDrawing⟩
      · exact ⟨_, fun u r => r, k_BadScript⟩) (dP s0) (by simp) fun l1 H1 ts1 s1 e1 pr1 => ?_
      have s1 := s0.trans s1
      refine cat_marks rfl rfl e1 pr1 (by
      intro mk hm
      simp only [List.mem_cons, List.not_mem_nil, or_false] at hm
      rcases hm with rfl | rfl | rfl
      · exact ⟨_, fun u r => r, k_BadPart⟩
      · exact ⟨_, fun u r => r, k_BadNumber⟩
      · exact ⟨_, fun u r => r, k_BadLot⟩) (dP s1) (by simp) fun l2 H2 ts2 s2 e2 pr2 => ?_
      have s2 := s1.trans s2
      refine cat_marks rfl rfl e2 pr2 (by
      intro mk hm
      simp only [List.mem_cons, List.not_mem_nil, or_false] at hm
      rcases hm with rfl | rfl | rfl
      · exact ⟨_, fun u r => r, k_NotOne⟩
      · exact ⟨_, fun u r => r, k_Lied⟩
      · exact ⟨_, fun u r => r, k_Unlike⟩) (dP s2) (by simp) fun l3 H3 ts3 s3 e3 pr3 => ?_
      have s3 := s2.trans s3
      refine cat_marks rfl rfl e3 pr3 (by
      intro mk hm
      simp only [List.mem_cons, List.not_mem_nil, or_false] at hm
      rcases hm with rfl | rfl | rfl
      · exact ⟨_, fun u r => r, k_TooMany⟩
      · exact ⟨_, fun u r => r, k_NoSuch⟩
      · exact ⟨_, fun u r => r, k_Ended⟩) (dP s3) (by simp) fun l4 H4 ts4 s4 e4 pr4 => ?_
      have s4 := s3.trans s4
      refine asg_marks [.str "NoSuch"] rfl rfl e4 pr4 (fun _ => rfl) (fun _ => rfl) fun fo hfo => ?_
      have s5 := s4.trans (same_new (o := .lst [.str "NoSuch"]) hfo)
      have n5 : H fo = none := s4.free hfo
      have f5 : (upd H4 fo (.lst [.str "NoSuch"])) fo = some (.lst [.str "NoSuch"]) := upd_same
      have dd5 := s5 _ _ hdd
      generalize upd H4 fo (.lst [.str "NoSuch"]) = H5 at s5 f5 dd5
      have ix0 : ∀ {H' : Hp} {R : VK}, Same H5 H' → R (.str "NoSuch") H' → rIxL K (.ref fo) (.int ((0 : Nat) : Int)) H' R := fun e k => ixL (SqL.of (e _ _ f5)) 0 rfl k
      simp only [L2.start, cxOf, tRet, tAndV, tOrV, tNotV, tCB, tCons, tNil, tVar, tC, tOp, tUn, tTest, tB, tIf, tIfS, tSeq, tAsg, tAnd, tOr, tNot, gName, tNext, tCall, tChain, rI, rI0, rEq, rNe, rGcd, rU, tM1, tM0, tSl, tPart, tNoPart, gTup, gCons, gNil, gSub, tTup, tLst, tPar, L2.rI, List.map_cons, List.map_nil, List.length_cons, List.length_nil, List.cons_append, List.nil_append, List.append_nil, List.getElem?_cons_zero, List.getElem?_cons_succ, List.set_cons_zero, List.set_cons_succ, Option.some.injEq, exists_eq_left, exists_eq_left', exists_eq_right, exists_and_left, exists_and_right, List.cons.injEq, and_true, true_and, V.int.injEq, V.str.injEq, V.bl.injEq, V.ref.injEq, List.replicate, Nat.reduceAdd, Nat.reduceSub, reduceCtorEq, false_and, and_false, if_true, if_false, Bool.false_eq_true, Bool.not_true, Bool.not_false, decide_eq_true_eq, exists_false, or_false, false_or, List.set_cons_zero, L2H.cxH]
      refine in_test (Same.refl H5) f5 (by decide) (b := false) (by decide +kernel) (by decide) fun J1 t1 => ⟨_, rfl, ?_⟩
      rw [if_neg (by decide)]
      refine in_test t1 f5 (by decide) (b := false) (by decide +kernel) (by decide) fun J2 t2 => ⟨_, rfl, ?_⟩
      rw [if_neg (by decide)]
      refine in_test t2 f5 (by decide) (b := true) (by decide +kernel) (by decide) fun J3 t3 => ⟨_, rfl, ?_⟩
      rw [if_pos rfl]
      simp only [L2.start, cxOf, tRet, tAndV, tOrV, tNotV, tCB, tCons, tNil, tVar, tC, tOp, tUn, tTest, tB, tIf, tIfS, tSeq, tAsg, tAnd, tOr, tNot, gName, tNext, tCall, tChain, rI, rI0, rEq, rNe, rGcd, rU, tM1, tM0, tSl, tPart, tNoPart, gTup, gCons, gNil, gSub, tTup, tLst, tPar, L2.rI, List.map_cons, List.map_nil, List.length_cons, List.length_nil, List.cons_append, List.nil_append, List.append_nil, List.getElem?_cons_zero, List.getElem?_cons_succ, List.set_cons_zero, List.set_cons_succ, Option.some.injEq, exists_eq_left, exists_eq_left', exists_eq_right, exists_and_left, exists_and_right, List.cons.injEq, and_true, true_and, V.int.injEq, V.str.injEq, V.bl.injEq, V.ref.injEq, List.replicate, Nat.reduceAdd, Nat.reduceSub, reduceCtorEq, false_and, and_false, if_true, if_false, Bool.false_eq_true, Bool.not_true, Bool.not_false, decide_eq_true_eq, exists_false, or_false, false_or, rSlX]
      refine ix0 t3 ⟨rfl, ?_⟩
      rw [if_neg (by decide +kernel)]
      refine ix0 t3 ⟨rfl, ?_⟩
      rw [if_neg (by decide +kernel)]
      refine ⟨_, rfl, rfl, hc, dd, _, _, hdi, t3 _ _ dd5, rfl, small (by decide), fun p2 h2 => ?_⟩
      have t6 := Same.trans t3 (same_new (o := .lst [z]) h2)
      refine ⟨fo, p2, _, _, rfl, rfl, t6 _ _ f5, upd_same, small (show (2 : Nat) ≤ 16777216 by decide), fun fo2 hf2 => ?_⟩
      have t7 := Same.trans t6 (same_new (o := .lst ([V.str "NoSuch"] ++ [z])) hf2)
      have k3 := upd_same (H := upd J3 p2 (.lst [z])) (a := fo2) (o := .lst ([V.str "NoSuch"] ++ [z]))
      generalize upd (upd J3 p2 (.lst [z])) fo2 (.lst ([V.str "NoSuch"] ++ [z])) = J7 at t7 k3 ⊢
      refine ixL (SqL.of k3) 0 rfl ⟨_, rfl, small (by decide +kernel), rfl, ?_⟩
      rw [if_neg (by decide +kernel)]
      refine marks_run rfl _ _ _ (by
      intro mk hm
      simp only [List.mem_cons, List.not_mem_nil, or_false] at hm
      rcases hm with rfl | rfl | rfl
      · exact ⟨_, fun u r => r, k_ValueError⟩
      · exact ⟨_, fun u r => r, k_LookupError⟩
      · exact ⟨_, fun u r => r, k_RuntimeError⟩) (dP (s5.trans t7)) fun us H8 s8 pr8 => ⟨?_, fun l5 hl5 => ?_⟩
      · rw [← pr8.length]
        exact small (by simp)
      · have s9 := s8.trans (same_new (o := .lst us) hl5)
        refine lc_marks rfl upd_same (pr8.same (same_new hl5)) (fun _ => rfl) (fun _ => rfl) fun a ha => ?_
        have s10 := s9.trans (same_new (o := .lst [V.str "LookupError"]) ha)
        refine ⟨fo2, a, _, _, rfl, rfl, s10 _ _ k3, upd_same, small (show (3 : Nat) ≤ 16777216 by decide), fun b hb => ?_⟩
        have s11 := s10.trans (same_new (o := .lst [V.str "NoSuch", z, V.str "LookupError"]) hb)
        exact q _ b ((s5.trans t7).trans s11) ((s5.trans t7).free (s10.free hb)) upd_same
    · have B := M
      obtain ⟨dd, z, bb, rfl, hc, hf, hdi, hdd, q⟩ := h
      have hp := hasP_cx (CX := C8.CX0) (P := P) (w := w) (K := K) (mg := mg) (base := base) (N := ["e", "pairs", "found", "pair"]) (qual := "_law_error") (scope := defScope (top 40)) (f := f) (cd := cdv) (outer := outer) (s := s) (H := H) (E := E) hot
      obtain ⟨C_BadBook, g_BadBook, _, k_BadBook⟩ := B.own "BadBook" (by decide)
      obtain ⟨C_BadTree, g_BadTree, _, k_BadTree⟩ := B.own "BadTree" (by decide)
      obtain ⟨C_BadForm, g_BadForm, _, k_BadForm⟩ := B.own "BadForm" (by decide)
      obtain ⟨C_BadPaper, g_BadPaper, _, k_BadPaper⟩ := B.own "BadPaper" (by decide)
      obtain ⟨C_BadDrawing, g_BadDrawing, _, k_BadDrawing⟩ := B.own "BadDrawing" (by decide)
      obtain ⟨C_BadScript, g_BadScript, _, k_BadScript⟩ := B.own "BadScript" (by decide)
      obtain ⟨C_BadPart, g_BadPart, _, k_BadPart⟩ := B.own "BadPart" (by decide)
      obtain ⟨C_BadNumber, g_BadNumber, _, k_BadNumber⟩ := B.own "BadNumber" (by decide)
      obtain ⟨C_BadLot, g_BadLot, _, k_BadLot⟩ := B.own "BadLot" (by decide)
      obtain ⟨C_NotOne, g_NotOne, _, k_NotOne⟩ := B.own "NotOne" (by decide)
      obtain ⟨C_Lied, g_Lied, _, k_Lied⟩ := B.own "Lied" (by decide)
      obtain ⟨C_Unlike, g_Unlike, _, k_Unlike⟩ := B.own "Unlike" (by decide)
      obtain ⟨C_TooMany, g_TooMany, _, k_TooMany⟩ := B.own "TooMany" (by decide)
      obtain ⟨C_NoSuch, g_NoSuch, _, k_NoSuch⟩ := B.own "NoSuch" (by decide)
      obtain ⟨C_Ended, g_Ended, _, k_Ended⟩ := B.own "Ended" (by decide)
      obtain ⟨g_ValueError, k_ValueError⟩ := B.blt "ValueError" (by decide)
      obtain ⟨g_LookupError, k_LookupError⟩ := B.blt "LookupError" (by decide)
      obtain ⟨g_RuntimeError, k_RuntimeError⟩ := B.blt "RuntimeError" (by decide)
      refine ⟨_, (pss_cons (ps_set (i := 1) sc.nd rfl (.inl rfl) (pe_lst (show PA _ _ (tMarks K CM p [("BadBook", .ref C_BadBook, false), ("BadTree", .ref C_BadTree, false), ("BadForm", .ref C_BadForm, false)]) from (pa_cons (pe_tup (pa_cons pe_str (pa_cons (pe_callB (call_isP hp.mem B.exc hc hf) (by rfl) m.isinstance_ boot_isinstance (pa_cons (pv 0) (pa_cons (pe_glob (v := .ref C_BadBook) (by rfl) g_BadBook rfl) pa_nil))) pa_nil)))
        (pa_cons (pe_tup (pa_cons pe_str (pa_cons (pe_callB (call_isP hp.mem B.exc hc hf) (by rfl) m.isinstance_ boot_isinstance (pa_cons (pv 0) (pa_cons (pe_glob (v := .ref C_BadTree) (by rfl) g_BadTree rfl) pa_nil))) pa_nil)))
        (pa_cons (pe_tup (pa_cons pe_str (pa_cons (pe_callB (call_isP hp.mem B.exc hc hf) (by rfl) m.isinstance_ boot_isinstance (pa_cons (pv 0) (pa_cons (pe_glob (v := .ref C_BadForm) (by rfl) g_BadForm rfl) pa_nil))) pa_nil)))
        pa_nil))))))
      (pss_cons (ps_set (i := 1) sc.nd rfl (.inl rfl) (pe_op op_cat (pv 1) (pe_lst (show PA _ _ (tMarks K CM p [("BadPaper", .ref C_BadPaper, false), ("BadDrawing", .ref C_BadDrawing, false), ("BadScript", .ref C_BadScript, false)]) from (pa_cons (pe_tup (pa_cons pe_str (pa_cons (pe_callB (call_isP hp.mem B.exc hc hf) (by rfl) m.isinstance_ boot_isinstance (pa_cons (pv 0) (pa_cons (pe_glob (v := .ref C_BadPaper) (by rfl) g_BadPaper rfl) pa_nil))) pa_nil)))
        (pa_cons (pe_tup (pa_cons pe_str (pa_cons (pe_callB (call_isP hp.mem B.exc hc hf) (by rfl) m.isinstance_ boot_isinstance (pa_cons (pv 0) (pa_cons (pe_glob (v := .ref C_BadDrawing) (by rfl) g_BadDrawing rfl) pa_nil))) pa_nil)))
        (pa_cons (pe_tup (pa_cons pe_str (pa_cons (pe_callB (call_isP hp.mem B.exc hc hf) (by rfl) m.isinstance_ boot_isinstance (pa_cons (pv 0) (pa_cons (pe_glob (v := .ref C_BadScript) (by rfl) g_BadScript rfl) pa_nil))) pa_nil)))
        pa_nil)))))))
      (pss_cons (ps_set (i := 1) sc.nd rfl (.inl rfl) (pe_op op_cat (pv 1) (pe_lst (show PA _ _ (tMarks K CM p [("BadPart", .ref C_BadPart, false), ("BadNumber", .ref C_BadNumber, false), ("BadLot", .ref C_BadLot, false)]) from (pa_cons (pe_tup (pa_cons pe_str (pa_cons (pe_callB (call_isP hp.mem B.exc hc hf) (by rfl) m.isinstance_ boot_isinstance (pa_cons (pv 0) (pa_cons (pe_glob (v := .ref C_BadPart) (by rfl) g_BadPart rfl) pa_nil))) pa_nil)))
        (pa_cons (pe_tup (pa_cons pe_str (pa_cons (pe_callB (call_isP hp.mem B.exc hc hf) (by rfl) m.isinstance_ boot_isinstance (pa_cons (pv 0) (pa_cons (pe_glob (v := .ref C_BadNumber) (by rfl) g_BadNumber rfl) pa_nil))) pa_nil)))
        (pa_cons (pe_tup (pa_cons pe_str (pa_cons (pe_callB (call_isP hp.mem B.exc hc hf) (by rfl) m.isinstance_ boot_isinstance (pa_cons (pv 0) (pa_cons (pe_glob (v := .ref C_BadLot) (by rfl) g_BadLot rfl) pa_nil))) pa_nil)))
        pa_nil)))))))
      (pss_cons (ps_set (i := 1) sc.nd rfl (.inl rfl) (pe_op op_cat (pv 1) (pe_lst (show PA _ _ (tMarks K CM p [("NotOne", .ref C_NotOne, false), ("Lied", .ref C_Lied, false), ("Unlike", .ref C_Unlike, false)]) from (pa_cons (pe_tup (pa_cons pe_str (pa_cons (pe_callB (call_isP hp.mem B.exc hc hf) (by rfl) m.isinstance_ boot_isinstance (pa_cons (pv 0) (pa_cons (pe_glob (v := .ref C_NotOne) (by rfl) g_NotOne rfl) pa_nil))) pa_nil)))
        (pa_cons (pe_tup (pa_cons pe_str (pa_cons (pe_callB (call_isP hp.mem B.exc hc hf) (by rfl) m.isinstance_ boot_isinstance (pa_cons (pv 0) (pa_cons (pe_glob (v := .ref C_Lied) (by rfl) g_Lied rfl) pa_nil))) pa_nil)))
        (pa_cons (pe_tup (pa_cons pe_str (pa_cons (pe_callB (call_isP hp.mem B.exc hc hf) (by rfl) m.isinstance_ boot_isinstance (pa_cons (pv 0) (pa_cons (pe_glob (v := .ref C_Unlike) (by rfl) g_Unlike rfl) pa_nil))) pa_nil)))
        pa_nil)))))))
      (pss_cons (ps_set (i := 1) sc.nd rfl (.inl rfl) (pe_op op_cat (pv 1) (pe_lst (show PA _ _ (tMarks K CM p [("TooMany", .ref C_TooMany, true), ("NoSuch", .ref C_NoSuch, false), ("Ended", .ref C_Ended, false)]) from (pa_cons (pe_tup (pa_cons pe_str (pa_cons (pe_callB (call_isP hp.mem B.exc hc hf) (by rfl) m.isinstance_ boot_isinstance (pa_cons (pv 0) (pa_cons (pe_glob (v := .ref C_TooMany) (by rfl) g_TooMany rfl) pa_nil))) pa_nil)))
        (pa_cons (pe_tup (pa_cons pe_str (pa_cons (pe_callB (call_isP hp.mem B.exc hc hf) (by rfl) m.isinstance_ boot_isinstance (pa_cons (pv 0) (pa_cons (pe_glob (v := .ref C_NoSuch) (by rfl) g_NoSuch rfl) pa_nil))) pa_nil)))
        (pa_cons (pe_tup (pa_cons pe_str (pa_cons (pe_callB (call_isP hp.mem B.exc hc hf) (by rfl) m.isinstance_ boot_isinstance (pa_cons (pv 0) (pa_cons (pe_glob (v := .ref C_Ended) (by rfl) g_Ended rfl) pa_nil))) pa_nil)))
        pa_nil)))))))
      (pss_cons (ps_setLcW (i := 2) (own := [("pair", 3)]) (g := gName 3) hp.warm sc.nd rfl rfl (sw_true rfl rfl rfl (by decide +kernel)) (pv 1) (blkOk_by (own := [("pair", 3)]) (N := ["e", "pairs", "found", "pair"]) (sc := defScope (top 40)) (by decide +kernel)) (fun _ _ _ _ _ => pg_name (i := 3) sc.nd rfl (.inl rfl)) (fun _ _ _ _ _ => pts_one (pt_val (pe_ix (show IxR _ (rIxT K) from ix_tup) (pv 3) pe_int (fun _ _ => rfl)))) (fun _ _ _ _ _ => pe_ix (show IxR _ (rIxT K) from ix_tup) (pv 3) pe_int (fun _ _ => rfl)))
      (pss_cons (ps_if (pt_cmpR op_in_seq (pe_ix ix_list (pv 2) pe_int (fun _ _ => rfl)) (pe_tup (pa_cons pe_str (pa_cons pe_str (pa_cons pe_str (pa_cons pe_str (pa_cons pe_str pa_nil)))))) rfl)
        (pss_one ps_never)
        (pss_one (ps_if (pt_cmpR op_in_seq (pe_ix ix_list (pv 2) pe_int (fun _ _ => rfl)) (pe_tup (pa_cons pe_str (pa_cons pe_str pa_nil))) rfl)
        (pss_one ps_never)
        (pss_one (ps_if (pt_cmpR op_in_seq (pe_ix ix_list (pv 2) pe_int (fun _ _ => rfl)) (pe_tup (pa_cons pe_str (pa_cons pe_str (pa_cons pe_str pa_nil)))) rfl)
        (pss_one ps_never)
        (pss_one (ps_if (pt_cmpR op_in_seq (pe_ix ix_list (pv 2) pe_int (fun _ _ => rfl)) (pe_tup (pa_cons pe_str (pa_cons pe_str (pa_cons pe_str pa_nil)))) rfl)
        (pss_one (ps_set (i := 2) sc.nd rfl (.inl rfl) (pe_op op_cat (pv 2) (pe_ifExp (pt_cmpR op_eq (pe_ix ix_list (pv 2) pe_int (fun _ _ => rfl)) pe_str (nomark _)) (pe_lst (pa_cons (pe_xp hp.mem B.xf B.noF hf (pv 0)) (pa_cons (pe_xp hp.mem B.xf B.noB hf (pv 0)) pa_nil))) pe_never))))
        pss_nil)))))))
      (pss_cons (ps_if ((pw_and (pt_cmpR op_eq (pe_slice sl_txt (pe_ix ix_list (pv 2) pe_int (fun _ _ => rfl)) po_none (po_some pe_int)) pe_str (nomark _)) (pw_and1 (pt_cmpR op_ne (pe_ix ix_list (pv 2) pe_int (fun _ _ => rfl)) pe_str (nomark _)))).pt)
        (pss_one ps_never)
        pss_nil)
      (pss_cons (ps_set (i := 1) sc.nd rfl (.inl rfl) (pe_lst (show PA _ _ (tMarks K CM p [("ValueError", .ty "ValueError", true), ("LookupError", .ty "LookupError", false), ("RuntimeError", .ty "RuntimeError", false)]) from (pa_cons (pe_tup (pa_cons pe_str (pa_cons (pe_callB (call_isP hp.mem B.exc hc hf) (by rfl) m.isinstance_ boot_isinstance (pa_cons (pv 0) (pa_cons (pe_bltn (v := .ty "ValueError") (by rfl) g_ValueError bootX_ValueError rfl) pa_nil))) pa_nil)))
        (pa_cons (pe_tup (pa_cons pe_str (pa_cons (pe_callB (call_isP hp.mem B.exc hc hf) (by rfl) m.isinstance_ boot_isinstance (pa_cons (pv 0) (pa_cons (pe_bltn (v := .ty "LookupError") (by rfl) g_LookupError bootX_LookupError rfl) pa_nil))) pa_nil)))
        (pa_cons (pe_tup (pa_cons pe_str (pa_cons (pe_callB (call_isP hp.mem B.exc hc hf) (by rfl) m.isinstance_ boot_isinstance (pa_cons (pv 0) (pa_cons (pe_bltn (v := .ty "RuntimeError") (by rfl) g_RuntimeError bootX_RuntimeError rfl) pa_nil))) pa_nil)))
        pa_nil))))))
      (pss_one (ps_ret (pe_op op_cat (pv 2) (pe_lcW (own := [("pair", 3)]) (g := gName 3) hp.warm sc.nd (pv 1) (blkOk_by (own := [("pair", 3)]) (N := ["e", "pairs", "found", "pair"]) (sc := defScope (top 40)) (by decide +kernel)) (fun _ _ _ _ _ => pg_name (i := 3) sc.nd rfl (.inl rfl)) (fun _ _ _ _ _ => pts_one (pt_val (pe_ix (show IxR _ (rIxT K) from ix_tup) (pv 3) pe_int (fun _ _ => rfl)))) (fun _ _ _ _ _ => pe_ix (show IxR _ (rIxT K) from ix_tup) (pv 3) pe_int (fun _ _ => rfl))))))))))))))), ?_⟩
      have dP : ∀ {H' : Hp}, Same H H' → DictP H' p.2 := fun e => .inr ⟨dd, _, hdi, e _ _ hdd⟩
      refine lst_marks rfl (by
      intro mk hm
      simp only [List.mem_cons, List.not_mem_nil, or_false] at hm
      rcases hm with rfl | rfl | rfl
      · exact ⟨_, fun u r => r, k_BadBook⟩
      · exact ⟨_, fun u r => r, k_BadTree⟩
      · exact ⟨_, fun u r => r, k_BadForm⟩) (dP (Same.refl H)) (by simp) fun l0 H0 ts0 s0 e0 pr0 => ?_
      refine cat_marks rfl rfl e0 pr0 (by
      intro mk hm
      simp only [List.mem_cons, List.not_mem_nil, or_false] at hm
      rcases hm with rfl | rfl | rfl
      · exact ⟨_, fun u r => r, k_BadPaper⟩
      · exact ⟨_, fun u r => r, k_BadDrawing⟩
      · exact ⟨_, fun u r => r, k_BadScript⟩) (dP s0) (by simp) fun l1 H1 ts1 s1 e1 pr1 => ?_
      have s1 := s0.trans s1
      refine cat_marks rfl rfl e1 pr1 (by
      intro mk hm
      simp only [List.mem_cons, List.not_mem_nil, or_false] at hm
      rcases hm with rfl | rfl | rfl
      · exact ⟨_, fun u r => r, k_BadPart⟩
      · exact ⟨_, fun u r => r, k_BadNumber⟩
      · exact ⟨_, fun u r => r, k_BadLot⟩) (dP s1) (by simp) fun l2 H2 ts2 s2 e2 pr2 => ?_
      have s2 := s1.trans s2
      refine cat_marks rfl rfl e2 pr2 (by
      intro mk hm
      simp only [List.mem_cons, List.not_mem_nil, or_false] at hm
      rcases hm with rfl | rfl | rfl
      · exact ⟨_, fun u r => r, k_NotOne⟩
      · exact ⟨_, fun u r => r, k_Lied⟩
      · exact ⟨_, fun u r => r, k_Unlike⟩) (dP s2) (by simp) fun l3 H3 ts3 s3 e3 pr3 => ?_
      have s3 := s2.trans s3
      refine cat_marks rfl rfl e3 pr3 (by
      intro mk hm
      simp only [List.mem_cons, List.not_mem_nil, or_false] at hm
      rcases hm with rfl | rfl | rfl
      · exact ⟨_, fun u r => r, k_TooMany⟩
      · exact ⟨_, fun u r => r, k_NoSuch⟩
      · exact ⟨_, fun u r => r, k_Ended⟩) (dP s3) (by simp) fun l4 H4 ts4 s4 e4 pr4 => ?_
      have s4 := s3.trans s4
      refine asg_marks [.str "TooMany"] rfl rfl e4 pr4 (fun _ => rfl) (fun _ => rfl) fun fo hfo => ?_
      have s5 := s4.trans (same_new (o := .lst [.str "TooMany"]) hfo)
      have n5 : H fo = none := s4.free hfo
      have f5 : (upd H4 fo (.lst [.str "TooMany"])) fo = some (.lst [.str "TooMany"]) := upd_same
      have dd5 := s5 _ _ hdd
      generalize upd H4 fo (.lst [.str "TooMany"]) = H5 at s5 f5 dd5
      have ix0 : ∀ {H' : Hp} {R : VK}, Same H5 H' → R (.str "TooMany") H' → rIxL K (.ref fo) (.int ((0 : Nat) : Int)) H' R := fun e k => ixL (SqL.of (e _ _ f5)) 0 rfl k
      simp only [L2.start, cxOf, tRet, tAndV, tOrV, tNotV, tCB, tCons, tNil, tVar, tC, tOp, tUn, tTest, tB, tIf, tIfS, tSeq, tAsg, tAnd, tOr, tNot, gName, tNext, tCall, tChain, rI, rI0, rEq, rNe, rGcd, rU, tM1, tM0, tSl, tPart, tNoPart, gTup, gCons, gNil, gSub, tTup, tLst, tPar, L2.rI, List.map_cons, List.map_nil, List.length_cons, List.length_nil, List.cons_append, List.nil_append, List.append_nil, List.getElem?_cons_zero, List.getElem?_cons_succ, List.set_cons_zero, List.set_cons_succ, Option.some.injEq, exists_eq_left, exists_eq_left', exists_eq_right, exists_and_left, exists_and_right, List.cons.injEq, and_true, true_and, V.int.injEq, V.str.injEq, V.bl.injEq, V.ref.injEq, List.replicate, Nat.reduceAdd, Nat.reduceSub, reduceCtorEq, false_and, and_false, if_true, if_false, Bool.false_eq_true, Bool.not_true, Bool.not_false, decide_eq_true_eq, exists_false, or_false, false_or, List.set_cons_zero, L2H.cxH]
      refine in_test (Same.refl H5) f5 (by decide) (b := false) (by decide +kernel) (by decide) fun J1 t1 => ⟨_, rfl, ?_⟩
      rw [if_neg (by decide)]
      refine in_test t1 f5 (by decide) (b := false) (by decide +kernel) (by decide) fun J2 t2 => ⟨_, rfl, ?_⟩
      rw [if_neg (by decide)]
      refine in_test t2 f5 (by decide) (b := false) (by decide +kernel) (by decide) fun J2b t2b => ⟨_, rfl, ?_⟩
      rw [if_neg (by decide)]
      refine in_test t2b f5 (by decide) (b := true) (by decide +kernel) (by decide) fun J3 t3 => ⟨_, rfl, ?_⟩
      rw [if_pos rfl]
      simp only [L2.start, cxOf, tRet, tAndV, tOrV, tNotV, tCB, tCons, tNil, tVar, tC, tOp, tUn, tTest, tB, tIf, tIfS, tSeq, tAsg, tAnd, tOr, tNot, gName, tNext, tCall, tChain, rI, rI0, rEq, rNe, rGcd, rU, tM1, tM0, tSl, tPart, tNoPart, gTup, gCons, gNil, gSub, tTup, tLst, tPar, L2.rI, List.map_cons, List.map_nil, List.length_cons, List.length_nil, List.cons_append, List.nil_append, List.append_nil, List.getElem?_cons_zero, List.getElem?_cons_succ, List.set_cons_zero, List.set_cons_succ, Option.some.injEq, exists_eq_left, exists_eq_left', exists_eq_right, exists_and_left, exists_and_right, List.cons.injEq, and_true, true_and, V.int.injEq, V.str.injEq, V.bl.injEq, V.ref.injEq, List.replicate, Nat.reduceAdd, Nat.reduceSub, reduceCtorEq, false_and, and_false, if_true, if_false, Bool.false_eq_true, Bool.not_true, Bool.not_false, decide_eq_true_eq, exists_false, or_false, false_or, rSlX]
      refine ix0 t3 ⟨rfl, ?_⟩
      rw [if_pos (by decide +kernel)]
      refine ⟨_, rfl, rfl, hc, dd, _, _, hdi, t3 _ _ dd5, rfl, _, rfl, rfl, hc, dd, _, _, hdi, t3 _ _ dd5, rfl, small (by decide), fun p2 h2 => ?_⟩
      have t6 := Same.trans t3 (same_new (o := .lst [z, bb]) h2)
      refine ⟨fo, p2, _, _, rfl, rfl, t6 _ _ f5, upd_same, small (show (3 : Nat) ≤ 16777216 by decide), fun fo2 hf2 => ?_⟩
      have t7 := Same.trans t6 (same_new (o := .lst ([V.str "TooMany"] ++ [z, bb])) hf2)
      have k3 := upd_same (H := upd J3 p2 (.lst [z, bb])) (a := fo2) (o := .lst ([V.str "TooMany"] ++ [z, bb]))
      generalize upd (upd J3 p2 (.lst [z, bb])) fo2 (.lst ([V.str "TooMany"] ++ [z, bb])) = J7 at t7 k3 ⊢
      refine ixL (SqL.of k3) 0 rfl ⟨_, rfl, small (by decide +kernel), rfl, ?_⟩
      rw [if_neg (by decide +kernel)]
      refine marks_run rfl _ _ _ (by
      intro mk hm
      simp only [List.mem_cons, List.not_mem_nil, or_false] at hm
      rcases hm with rfl | rfl | rfl
      · exact ⟨_, fun u r => r, k_ValueError⟩
      · exact ⟨_, fun u r => r, k_LookupError⟩
      · exact ⟨_, fun u r => r, k_RuntimeError⟩) (dP (s5.trans t7)) fun us H8 s8 pr8 => ⟨?_, fun l5 hl5 => ?_⟩
      · rw [← pr8.length]
        exact small (by simp)
      · have s9 := s8.trans (same_new (o := .lst us) hl5)
        refine lc_marks rfl upd_same (pr8.same (same_new hl5)) (fun _ => rfl) (fun _ => rfl) fun a ha => ?_
        have s10 := s9.trans (same_new (o := .lst [V.str "ValueError"]) ha)
        refine ⟨fo2, a, _, _, rfl, rfl, s10 _ _ k3, upd_same, small (show (4 : Nat) ≤ 16777216 by decide), fun b hb => ?_⟩
        have s11 := s10.trans (same_new (o := .lst [V.str "TooMany", z, bb, V.str "ValueError"]) hb)
        exact q _ b ((s5.trans t7).trans s11) ((s5.trans t7).free (s10.free hb)) upd_same
end
end W20


set_option Elab.async false
set_option linter.all false
set_option maxRecDepth 100000
set_option maxHeartbeats 4000000
/-! CC20: _law_try, _law_refused -/
namespace W20
open PySem PySem.Spec PyProof.Rows L2 Lay L2H
open SX (S S_len S_cat S_tl)
open C8 (Cal pe_c pe_gc fnScope_by E0)
section
variable {P : Program} {w : World} {K : PySem.W.Frag} {mg : Str → Option Value} {base : Heap} {f fB fN fM CB CN CM : Addr} {fd fdB fdN fdM : FuncData}
theorem sd41 : FnScope ["call", "e"] ["call"] (defScope (top 41)) := fnScope_by (by decide +kernel)
/-- what is wished of an error that the lambda lets out -/
def ErrK (CB CN CM : Addr) (Q : VK) : XK := fun cls d H' => (cls = .ref CB ∧ ∃ dd z, d = some dd ∧ H' dd = some (.xd [("why", .str z)]) ∧ 0 < z.length ∧ z.length ≤ 1000 ∧ ∀ H'' l, Same H' H'' → H' l = none → BadList H'' l → Q (.ref l) H'') ∨
  (cls = .ref CN ∧ ∃ dd v, d = some dd ∧ H' dd = some (.xd [("name", v)]) ∧ ∀ H'' l, Same H' H'' → H' l = none → H'' l = some (.lst [.str "NoSuch", v, .str "LookupError"]) → Q (.ref l) H'') ∨
  (cls = .ref CM ∧ ∃ dd v b, d = some dd ∧ H' dd = some (.xd [("bound", b), ("what", v)]) ∧ ∀ H'' l, Same H' H'' → H' l = none → H'' l = some (.lst [.str "TooMany", v, b, .str "ValueError"]) → Q (.ref l) H'')
def spTry (CB CN CM : Addr) : (Hp → VK → XK → Prop) → Sp := fun spL vs H Q _ => vs = [] ∧ ∀ H1 t, Same H H1 → H t = none → H1 t = some (.tup [.str "told"]) → spL H1 (fun v H' => [V.ref t, v].length ≤ sizeLine ∧ ∀ l, H' l = none → Q (.ref l) (upd H' l (.lst [.ref t, v]))) (ErrK CB CN CM Q)
theorem ok_try (B : Bad K mg CB fB fdB) (N : NoS K mg CN fN fdN) (M : TooM K mg CM fM fdM) (c_errB : CalE P w K mg base 1 "_law_error" (spErrB CB)) (c_errS : CalE P w K mg base 1 "_law_error" (spErrSM CN CM)) (F : Fn K "_law_try" 41 f fd) (g : mg "_law_try" = some (.ref f)) (j : Nat) (hj : 1 ≤ j) : CalL P w K mg base (j + 1) j "_law_try" (spTry CB CN CM) := by
  have sc := sd41
  refine calL F g sc (fun _ _ _ _ _ _ us hl => match us, hl with | [_], _ => rfl) ?_ fun cdv A outer s H vs fl spL Q E hr l h => ?_
  · rintro spL vs H Q E ⟨rfl, _⟩
    rfl
  · obtain ⟨rfl, q⟩ := h
    obtain ⟨C_BadBook, g_BadBook, e_BadBook, _⟩ := B.own "BadBook" (by decide)
    obtain ⟨C_BadTree, g_BadTree, e_BadTree, _⟩ := B.own "BadTree" (by decide)
    obtain ⟨C_BadForm, g_BadForm, e_BadForm, _⟩ := B.own "BadForm" (by decide)
    obtain ⟨C_BadPaper, g_BadPaper, e_BadPaper, _⟩ := B.own "BadPaper" (by decide)
    obtain ⟨C_BadDrawing, g_BadDrawing, e_BadDrawing, _⟩ := B.own "BadDrawing" (by decide)
    obtain ⟨C_BadScript, g_BadScript, e_BadScript, _⟩ := B.own "BadScript" (by decide)
    obtain ⟨C_BadPart, g_BadPart, e_BadPart, _⟩ := B.own "BadPart" (by decide)
    obtain ⟨C_BadNumber, g_BadNumber, e_BadNumber, _⟩ := B.own "BadNumber" (by decide)
    obtain ⟨C_BadLot, g_BadLot, e_BadLot, _⟩ := B.own "BadLot" (by decide)
    obtain ⟨C_NotOne, g_NotOne, e_NotOne, _⟩ := B.own "NotOne" (by decide)
    obtain ⟨C_Lied, g_Lied, e_Lied, _⟩ := B.own "Lied" (by decide)
    obtain ⟨C_Unlike, g_Unlike, e_Unlike, _⟩ := B.own "Unlike" (by decide)
    obtain ⟨C_TooMany, g_TooMany, e_TooMany, _⟩ := B.own "TooMany" (by decide)
    obtain ⟨C_NoSuch, g_NoSuch, e_NoSuch, _⟩ := B.own "NoSuch" (by decide)
    obtain ⟨C_Ended, g_Ended, e_Ended, _⟩ := B.own "Ended" (by decide)
    obtain ⟨D_BadBook, h_BadBook, n_BadBook, _⟩ := N.own "BadBook" (by decide)
    obtain rfl : C_BadBook = D_BadBook := Value.ref.inj (Option.some.inj (g_BadBook.symm.trans h_BadBook))
    obtain ⟨D_BadTree, h_BadTree, n_BadTree, _⟩ := N.own "BadTree" (by decide)
    obtain rfl : C_BadTree = D_BadTree := Value.ref.inj (Option.some.inj (g_BadTree.symm.trans h_BadTree))
    obtain ⟨D_BadForm, h_BadForm, n_BadForm, _⟩ := N.own "BadForm" (by decide)
    obtain rfl : C_BadForm = D_BadForm := Value.ref.inj (Option.some.inj (g_BadForm.symm.trans h_BadForm))
    obtain ⟨D_BadPaper, h_BadPaper, n_BadPaper, _⟩ := N.own "BadPaper" (by decide)
    obtain rfl : C_BadPaper = D_BadPaper := Value.ref.inj (Option.some.inj (g_BadPaper.symm.trans h_BadPaper))
    obtain ⟨D_BadDrawing, h_BadDrawing, n_BadDrawing, _⟩ := N.own "BadDrawing" (by decide)
    obtain rfl : C_BadDrawing = D_BadDrawing := Value.ref.inj (Option.some.inj (g_BadDrawing.symm.trans h_BadDrawing))
    obtain ⟨D_BadScript, h_BadScript, n_BadScript, _⟩ := N.own "BadScript" (by decide)
    obtain rfl : C_BadScript = D_BadScript := Value.ref.inj (Option.some.inj (g_BadScript.symm.trans h_BadScript))
    obtain ⟨D_BadPart, h_BadPart, n_BadPart, _⟩ := N.own "BadPart" (by decide)
    obtain rfl : C_BadPart = D_BadPart := Value.ref.inj (Option.some.inj (g_BadPart.symm.trans h_BadPart))
    obtain ⟨D_BadNumber, h_BadNumber, n_BadNumber, _⟩ := N.own "BadNumber" (by decide)
    obtain rfl : C_BadNumber = D_BadNumber := Value.ref.inj (Option.some.inj (g_BadNumber.symm.trans h_BadNumber))
    obtain ⟨D_BadLot, h_BadLot, n_BadLot, _⟩ := N.own "BadLot" (by decide)
    obtain rfl : C_BadLot = D_BadLot := Value.ref.inj (Option.some.inj (g_BadLot.symm.trans h_BadLot))
    obtain ⟨D_NotOne, h_NotOne, n_NotOne, _⟩ := N.own "NotOne" (by decide)
    obtain rfl : C_NotOne = D_NotOne := Value.ref.inj (Option.some.inj (g_NotOne.symm.trans h_NotOne))
    obtain ⟨D_Lied, h_Lied, n_Lied, _⟩ := N.own "Lied" (by decide)
    obtain rfl : C_Lied = D_Lied := Value.ref.inj (Option.some.inj (g_Lied.symm.trans h_Lied))
    obtain ⟨D_Unlike, h_Unlike, n_Unlike, _⟩ := N.own "Unlike" (by decide)
    obtain rfl : C_Unlike = D_Unlike := Value.ref.inj (Option.some.inj (g_Unlike.symm.trans h_Unlike))
    obtain ⟨D_TooMany, h_TooMany, n_TooMany, _⟩ := N.own "TooMany" (by decide)
    obtain rfl : C_TooMany = D_TooMany := Value.ref.inj (Option.some.inj (g_TooMany.symm.trans h_TooMany))
    obtain ⟨D_NoSuch, h_NoSuch, n_NoSuch, _⟩ := N.own "NoSuch" (by decide)
    obtain rfl : C_NoSuch = D_NoSuch := Value.ref.inj (Option.some.inj (g_NoSuch.symm.trans h_NoSuch))
    obtain ⟨D_Ended, h_Ended, n_Ended, _⟩ := N.own "Ended" (by decide)
    obtain rfl : C_Ended = D_Ended := Value.ref.inj (Option.some.inj (g_Ended.symm.trans h_Ended))
    obtain ⟨D_BadBook, h_BadBook, m_BadBook, _⟩ := M.own "BadBook" (by decide)
    obtain rfl : C_BadBook = D_BadBook := Value.ref.inj (Option.some.inj (g_BadBook.symm.trans h_BadBook))
    obtain ⟨D_BadTree, h_BadTree, m_BadTree, _⟩ := M.own "BadTree" (by decide)
    obtain rfl : C_BadTree = D_BadTree := Value.ref.inj (Option.some.inj (g_BadTree.symm.trans h_BadTree))
    obtain ⟨D_BadForm, h_BadForm, m_BadForm, _⟩ := M.own "BadForm" (by decide)
    obtain rfl : C_BadForm = D_BadForm := Value.ref.inj (Option.some.inj (g_BadForm.symm.trans h_BadForm))
    obtain ⟨D_BadPaper, h_BadPaper, m_BadPaper, _⟩ := M.own "BadPaper" (by decide)
    obtain rfl : C_BadPaper = D_BadPaper := Value.ref.inj (Option.some.inj (g_BadPaper.symm.trans h_BadPaper))
    obtain ⟨D_BadDrawing, h_BadDrawing, m_BadDrawing, _⟩ := M.own "BadDrawing" (by decide)
    obtain rfl : C_BadDrawing = D_BadDrawing := Value.ref.inj (Option.some.inj (g_BadDrawing.symm.trans h_BadDrawing))
    obtain ⟨D_BadScript, h_BadScript, m_BadScript, _⟩ := M.own "BadScript" (by decide)
    obtain rfl : C_BadScript = D_BadScript := Value.ref.inj (Option.some.inj (g_BadScript.symm.trans h_BadScript))
    obtain ⟨D_BadPart, h_BadPart, m_BadPart, _⟩ := M.own "BadPart" (by decide)
    obtain rfl : C_BadPart = D_BadPart := Value.ref.inj (Option.some.inj (g_BadPart.symm.trans h_BadPart))
    obtain ⟨D_BadNumber, h_BadNumber, m_BadNumber, _⟩ := M.own "BadNumber" (by decide)
    obtain rfl : C_BadNumber = D_BadNumber := Value.ref.inj (Option.some.inj (g_BadNumber.symm.trans h_BadNumber))
    obtain ⟨D_BadLot, h_BadLot, m_BadLot, _⟩ := M.own "BadLot" (by decide)
    obtain rfl : C_BadLot = D_BadLot := Value.ref.inj (Option.some.inj (g_BadLot.symm.trans h_BadLot))
    obtain ⟨D_NotOne, h_NotOne, m_NotOne, _⟩ := M.own "NotOne" (by decide)
    obtain rfl : C_NotOne = D_NotOne := Value.ref.inj (Option.some.inj (g_NotOne.symm.trans h_NotOne))
    obtain ⟨D_Lied, h_Lied, m_Lied, _⟩ := M.own "Lied" (by decide)
    obtain rfl : C_Lied = D_Lied := Value.ref.inj (Option.some.inj (g_Lied.symm.trans h_Lied))
    obtain ⟨D_Unlike, h_Unlike, m_Unlike, _⟩ := M.own "Unlike" (by decide)
    obtain rfl : C_Unlike = D_Unlike := Value.ref.inj (Option.some.inj (g_Unlike.symm.trans h_Unlike))
    obtain ⟨D_TooMany, h_TooMany, m_TooMany, _⟩ := M.own "TooMany" (by decide)
    obtain rfl : C_TooMany = D_TooMany := Value.ref.inj (Option.some.inj (g_TooMany.symm.trans h_TooMany))
    obtain ⟨D_NoSuch, h_NoSuch, m_NoSuch, _⟩ := M.own "NoSuch" (by decide)
    obtain rfl : C_NoSuch = D_NoSuch := Value.ref.inj (Option.some.inj (g_NoSuch.symm.trans h_NoSuch))
    obtain ⟨D_Ended, h_Ended, m_Ended, _⟩ := M.own "Ended" (by decide)
    obtain rfl : C_Ended = D_Ended := Value.ref.inj (Option.some.inj (g_Ended.symm.trans h_Ended))
    have mM : PySem.W.exmAny K (.ref CM) [.ref C_BadBook, .ref C_BadTree, .ref C_BadForm, .ref C_BadPaper, .ref C_BadDrawing, .ref C_BadScript, .ref C_BadPart, .ref C_BadNumber] = some false := by
      simp only [PySem.W.exmAny, m_BadBook, m_BadTree, m_BadForm, m_BadPaper, m_BadDrawing, m_BadScript, m_BadPart, m_BadNumber]
      decide +kernel
    have mM2 : PySem.W.exmAny K (.ref CM) [.ref C_BadLot, .ref C_NotOne, .ref C_Lied, .ref C_Unlike, .ref C_TooMany, .ref C_NoSuch, .ref C_Ended] = some true := by
      simp only [PySem.W.exmAny, m_BadLot, m_NotOne, m_Lied, m_Unlike, m_TooMany, m_NoSuch, m_Ended]
      decide +kernel
    have mB : PySem.W.exmAny K (.ref CB) [.ref C_BadBook, .ref C_BadTree, .ref C_BadForm, .ref C_BadPaper, .ref C_BadDrawing, .ref C_BadScript, .ref C_BadPart, .ref C_BadNumber] = some true := by
      simp only [PySem.W.exmAny, e_BadBook, e_BadTree, e_BadForm, e_BadPaper, e_BadDrawing, e_BadScript, e_BadPart, e_BadNumber]
      decide +kernel
    have mN : PySem.W.exmAny K (.ref CN) [.ref C_BadBook, .ref C_BadTree, .ref C_BadForm, .ref C_BadPaper, .ref C_BadDrawing, .ref C_BadScript, .ref C_BadPart, .ref C_BadNumber] = some false := by
      simp only [PySem.W.exmAny, n_BadBook, n_BadTree, n_BadForm, n_BadPaper, n_BadDrawing, n_BadScript, n_BadPart, n_BadNumber]
      decide +kernel
    have mN2 : PySem.W.exmAny K (.ref CN) [.ref C_BadLot, .ref C_NotOne, .ref C_Lied, .ref C_Unlike, .ref C_TooMany, .ref C_NoSuch, .ref C_Ended] = some true := by
      simp only [PySem.W.exmAny, n_BadLot, n_NotOne, n_Lied, n_Unlike, n_TooMany, n_NoSuch, n_Ended]
      decide +kernel
    refine ⟨_, pss_one (ps_try_all (i := 1) rfl rfl sc.nd rfl rfl takes_no (fun W pn xe tk _ => pss_one (ps_ret (pe_lst (pa_cons (pe_tup (pa_cons pe_str pa_nil)) (pa_cons (pe_actW (i := 0) rfl l hr tk rfl (.inl rfl)) pa_nil)))))
      (HdsA.cons (tst_tup (.cons ⟨rfl, by decide, .inl g_BadBook⟩ (.cons ⟨rfl, by decide, .inl g_BadTree⟩ (.cons ⟨rfl, by decide, .inl g_BadForm⟩ (.cons ⟨rfl, by decide, .inl g_BadPaper⟩ (.cons ⟨rfl, by decide, .inl g_BadDrawing⟩ (.cons ⟨rfl, by decide, .inl g_BadScript⟩ (.cons ⟨rfl, by decide, .inl g_BadPart⟩ (.cons ⟨rfl, by decide, .inl g_BadNumber⟩ .nil)))))))) (by simp)) (fun p pn hp hf => pss_one (ps_ret (pe_cE c_errB (roomH_mark hr _) hj hp (by rfl) (pa_cons (pv 1) pa_nil))))
        (HdsA.cons (tst_tup (.cons ⟨rfl, by decide, .inl g_BadLot⟩ (.cons ⟨rfl, by decide, .inl g_NotOne⟩ (.cons ⟨rfl, by decide, .inl g_Lied⟩ (.cons ⟨rfl, by decide, .inl g_Unlike⟩ (.cons ⟨rfl, by decide, .inl g_TooMany⟩ (.cons ⟨rfl, by decide, .inl g_NoSuch⟩ (.cons ⟨rfl, by decide, .inl g_Ended⟩ .nil))))))) (by simp)) (fun p pn hp hf => pss_one (ps_ret (pe_cE c_errS (roomH_mark hr _) hj hp (by rfl) (pa_cons (pv 1) pa_nil))))
        HdsA.nil))), ?_⟩
    refine ⟨small (by decide), fun t ht => ⟨ErrK CB CN CM Q, ?_, rfl, ?_⟩⟩
    · rintro cls d H' (⟨rfl, dd, z, rfl, hd, z0, z1, k⟩ | ⟨rfl, dd, v, rfl, hd, k⟩ | ⟨rfl, dd, v, b, rfl, hd, k⟩)
      · refine ⟨true, mB, fun _ p hc hdict hf hfree => ?_, (fun z => nomatch z)⟩
        exact ⟨_, rfl, dd, z, rfl, hc, hf, hdict, hd, z0, z1, fun H'' l s2 nl bl => k H'' l s2 nl bl⟩
      · refine ⟨false, mN, (fun z => nomatch z), fun _ => ⟨true, mN2, fun _ p hc hdict hf hfree => ?_, (fun z => nomatch z)⟩⟩
        exact ⟨_, rfl, .inl ⟨dd, v, rfl, hc, hf, hdict, hd, fun H'' l s2 nl bl => k H'' l s2 nl bl⟩⟩
      · refine ⟨false, mM, (fun z => nomatch z), fun _ => ⟨true, mM2, fun _ p hc hdict hf hfree => ?_, (fun z => nomatch z)⟩⟩
        exact ⟨_, rfl, .inr ⟨dd, v, b, rfl, hc, hf, hdict, hd, fun H'' l s2 nl bl => k H'' l s2 nl bl⟩⟩
    · exact q _ t (same_new ht) ht upd_same
/-- a def that is handed a lambda hands it on -/
theorem pe_cL {X : Cx} {k j m i : Nat} {x a : Str} {fl : Addr} {SP : (Hp → VK → XK → Prop) → Sp} {spL : Hp → VK → XK → Prop} {es : List Expr} {t : TA} {q p1 pos : Pos} (c : CalL X.prog X.w X.K X.mg X.base k j x SP) (hex : X.ex = [])
    (l : LamOk X.prog X.w X.K X.mg X.base (L2N.CX X.prog X.w) j X.fs X.s_0 X.H_0 fl spL) (hr : Room m X.A) (hk : k ≤ m) (hg : Gl X x) (hN : X.N[i]? = some a) (hv : Vis X.env.scope a) (ha : PA X es t)
    (hd : (a == ("__debug__" : Str)) = false := by decide) (hcd : (a == ("__classdict__" : Str)) = false := by decide) (hdb : (x == ("__debug__" : Str)) = false := by decide)
    (he : starEach (.Name a p1 :: es) X.env = (false, eval (.Name a p1) X.env) :: starEach es X.env := by rfl) (hpl : (backTo pos (starEach es X.env)).any (·.1) = false := by rfl) :
    PE X (.Call (.Name x q) (.Name a p1 :: es) [] pos) (fun σ H Q => σ[i]? = some (some (.ref fl)) ∧ t σ H fun vs H1 => SP spL vs H1 Q C8.E0) := by
  obtain ⟨f, fd, ps, F, hm, kp, b⟩ := c.ex
  exact pe_passL (E := fun _ => C8.E0) F hex l (hr.mono hk) hg hm kp b (fun σ _ _ _ _ _ _ h => h.elim) hN hv ha hd hcd hdb he hpl
theorem sd44 : FnScope ["call", "due"] ["call", "due"] (defScope (top 44)) := fnScope_by (by decide +kernel)
/-- an error that is due: what stands at a tells it -/
def ErrIs (CB CN CM : Addr) (H : Hp) (a : Addr) : XK := fun cls d H' => (cls = .ref CB ∧ ∃ dd z, d = some dd ∧ H' dd = some (.xd [("why", .str z)]) ∧ 0 < z.length ∧ z.length ≤ 1000 ∧ BadList H a) ∨
  (cls = .ref CN ∧ ∃ dd z, d = some dd ∧ H' dd = some (.xd [("name", .str z)]) ∧ H a = some (.lst [.str "NoSuch", .str z, .str "LookupError"])) ∨
  (cls = .ref CM ∧ ∃ dd, d = some dd ∧ H' dd = some (.xd tooM) ∧ H a = some (.lst [.str "TooMany", .str "things", .int 24, .str "ValueError"]))
def spRef (CB CN CM : Addr) : (Hp → VK → XK → Prop) → Sp := fun spL vs H Q _ => ∃ a, vs = [.ref a] ∧ (∀ (H1 : Hp) (Q' : VK) (E' : XK), Same H H1 → (∀ cls d H', Same H1 H' → ErrIs CB CN CM H a cls d H' → E' cls d H') → spL H1 Q' E') ∧ ∀ H', Same H H' → Q (.bl true) H'
theorem lk_str {n : Nat} {H : Hp} {z : Str} : Lk (n + 1) H (.str z) (.str z) := .inl ⟨rfl, .inl ⟨z, rfl⟩⟩
theorem lk_int {n : Nat} {H : Hp} {z : Int} : Lk (n + 1) H (.int z) (.int z) := .inl ⟨rfl, .inr (.inl ⟨z, rfl⟩)⟩
theorem lk_bl {n : Nat} {H : Hp} {z : Bool} : Lk (n + 1) H (.bl z) (.bl z) := .inl ⟨rfl, .inr (.inr (.inl ⟨z, rfl⟩))⟩
theorem lk_non {n : Nat} {H : Hp} : Lk (n + 1) H .non .non := .inl ⟨rfl, .inr (.inr (.inr rfl))⟩
theorem ok_refused (c_like : Cal P w K mg base 3 "_law_like" (spLike 3) []) (j : Nat) (c_try : CalL P w K mg base (j + 1) j "_law_try" (spTry CB CN CM)) (hj : 2 ≤ j) (F : Fn K "_law_refused" 44 f fd) (g : mg "_law_refused" = some (.ref f)) : CalL P w K mg base (j + 2) j "_law_refused" (spRef CB CN CM) := by
  have sc := sd44
  refine calL F g sc (fun _ _ _ _ _ _ us hl => match us, hl with | [_, _], _ => rfl) ?_ fun cdv A outer s H vs fl spL Q E hr l h => ?_
  · rintro spL vs H Q E ⟨a, rfl, _⟩
    rfl
  · obtain ⟨a, rfl, sp, q⟩ := h
    refine ⟨_, pss_one (ps_ret (pe_c c_like hr (by omega) (by rfl) (pa_cons (pe_cL (i := 0) c_try rfl l hr (Nat.le_refl _) (by rfl) rfl (.inl rfl) pa_nil) (pa_cons (pv 1) pa_nil)))), ?_⟩
    refine ⟨rfl, rfl, fun H1 t s1 n1 ht => sp H1 _ _ s1 fun cls d H' s2 er => ?_⟩
    have s02 := s1.trans s2
    rcases er with ⟨rfl, dd, z, rfl, hd, z0, z1, due⟩ | ⟨rfl, dd, z, rfl, hd, due⟩ | ⟨rfl, dd, rfl, hd, due⟩
    · refine .inl ⟨rfl, dd, z, rfl, hd, z0, z1, fun H'' r s3 nr ⟨t1, hr1, ht1⟩ => ?_⟩
      have s03 := s02.trans s3
      obtain ⟨t2, hr2, ht2⟩ := due
      refine ⟨_, rfl, _, _, rfl, .inr ⟨r, a, _, _, rfl, rfl, .inl ⟨hr1, s03 _ _ hr2⟩, rfl, by simp, fun i u v g1 g2 => ?_⟩, fun H4 s4 => q H4 (s03.trans s4)⟩
      match i, g1, g2 with
      | 0, g1, g2 =>
        cases g1; cases g2
        exact lk_str
      | 1, g1, g2 =>
        cases g1; cases g2
        refine .inr ⟨t1, t2, _, _, rfl, rfl, .inr ⟨ht1, s03 _ _ ht2⟩, rfl, by decide, fun i u v g1 g2 => ?_⟩
        match i, g1, g2 with
        | 0, g1, g2 =>
          cases g1; cases g2
          exact lk_str
      | 2, g1, g2 =>
        cases g1; cases g2
        exact lk_str
    · refine .inr (.inl ⟨rfl, dd, .str z, rfl, hd, fun H'' r s3 nr hr1 => ?_⟩)
      have s03 := s02.trans s3
      refine ⟨_, rfl, _, _, rfl, .inr ⟨r, a, _, _, rfl, rfl, .inl ⟨hr1, s03 _ _ due⟩, rfl, by simp, fun i u v g1 g2 => ?_⟩, fun H4 s4 => q H4 (s03.trans s4)⟩
      match i, g1, g2 with
      | 0, g1, g2 =>
        cases g1; cases g2
        exact lk_str
      | 1, g1, g2 =>
        cases g1; cases g2
        exact lk_str
      | 2, g1, g2 =>
        cases g1; cases g2
        exact lk_str
    · refine .inr (.inr ⟨rfl, dd, .str "things", .int 24, rfl, hd, fun H'' r s3 nr hr1 => ?_⟩)
      have s03 := s02.trans s3
      refine ⟨_, rfl, _, _, rfl, .inr ⟨r, a, _, _, rfl, rfl, .inl ⟨hr1, s03 _ _ due⟩, rfl, by simp, fun i u v g1 g2 => ?_⟩, fun H4 s4 => q H4 (s03.trans s4)⟩
      match i, g1, g2 with
      | 0, g1, g2 =>
        cases g1; cases g2
        exact lk_str
      | 1, g1, g2 =>
        cases g1; cases g2
        exact lk_str
      | 2, g1, g2 =>
        cases g1; cases g2
        exact lk_int
      | 3, g1, g2 =>
        cases g1; cases g2
        exact lk_str
end
end W20

set_option Elab.async false
set_option linter.all false
/-! PT20: tables of nodes (pure) -/
namespace P20
open Tr
/-- a tree whose leaves bear places -/
inductive PT where
  | leaf (w : Wd) (p : Nat)
  | node (l r : PT)
namespace PT
def er : PT → Tr
  | leaf w _ => .leaf w
  | node l r => .node l.er r.er
def pl : PT → List Nat
  | leaf _ p => [p]
  | node l r => l.pl ++ r.pl
def subs : PT → List PT
  | leaf w p => [leaf w p]
  | node l r => l.subs ++ r.subs ++ [node l r]
end PT
structure Row where
  tx : List Nat
  pl : List Nat
  li : Int
  ri : Int
def Row.shift (k : Int) (r : Row) : Row := if 0 ≤ r.li then ⟨r.tx, r.pl, r.li + k, r.ri + k⟩ else r
def jn (l r : List Row) (a b : Row) : List Row := l ++ r.map (Row.shift l.length) ++ [⟨40 :: (a.tx ++ 32 :: (b.tx ++ [41])), a.pl ++ b.pl, (l.length : Int) - 1, (l.length : Int) + r.length - 1⟩]
/-- the last row of a tree's table -/
def top : PT → Int → Int → Row := fun t li ri => ⟨spell t.er, t.pl, li, ri⟩
def rows : PT → List Row
  | .leaf w p => [⟨w, [p], -1, -1⟩]
  | .node l r => rows l ++ (rows r).map (Row.shift (rows l).length) ++ [⟨spell (.node l.er r.er), l.pl ++ r.pl, ((rows l).length : Int) - 1, ((rows l).length : Int) + (rows r).length - 1⟩]
theorem rows_len : ∀ t : PT, (rows t).length = t.subs.length
  | .leaf w p => rfl
  | .node l r => by
    have h1 := rows_len l
    have h2 := rows_len r
    simp only [rows, PT.subs, List.length_append, List.length_map, List.length_cons, List.length_nil]
    omega
theorem subs_er : ∀ t : PT, t.subs.map PT.er = nodes t.er
  | .leaf w p => rfl
  | .node l r => by simp [PT.subs, PT.er, nodes, subs_er l, subs_er r]
theorem subs_len (t : PT) : t.subs.length = (nodes t.er).length := by rw [← subs_er, List.length_map]
theorem subs_pos (t : PT) : 0 < t.subs.length := by
  cases t with
  | leaf w p => exact Nat.one_pos
  | node l r =>
    rw [PT.subs, List.length_append, List.length_singleton]
    omega
theorem subs_last (t : PT) : t.subs[t.subs.length - 1]? = some t := by
  cases t with
  | leaf w p => rfl
  | node l r =>
    rw [PT.subs, List.length_append, List.length_singleton, Nat.add_sub_cancel, List.getElem?_append_right (Nat.le_refl _), Nat.sub_self]
    rfl
theorem rows_last (t : PT) : ∃ li ri, (rows t).getLast? = some ⟨spell t.er, t.pl, li, ri⟩ := by
  cases t with
  | leaf w p => exact ⟨_, _, rfl⟩
  | node l r => exact ⟨_, _, by rw [rows, List.getLast?_concat]; rfl⟩
theorem rows_node (l r : PT) {a b : Row} (ha : (rows l).getLast? = some a) (hb : (rows r).getLast? = some b) : rows (.node l r) = jn (rows l) (rows r) a b := by
  obtain ⟨_, _, e1⟩ := rows_last l
  obtain ⟨_, _, e2⟩ := rows_last r
  rw [e1] at ha
  rw [e2] at hb
  cases ha
  cases hb
  rfl
theorem leaves_pl : ∀ t : PT, (leaves t.er).length = t.pl.length
  | .leaf w p => rfl
  | .node l r => by simp [PT.er, leaves, PT.pl, leaves_pl l, leaves_pl r]
/-- what a row tells of its node -/
def RowOf (ts : List PT) (t : PT) (r : Row) : Prop := r.tx = spell t.er ∧ r.pl = t.pl ∧ match t with
  | .leaf _ _ => r.li = -1 ∧ r.ri = -1
  | .node a b => ∃ i j : Nat, r.li = i ∧ r.ri = j ∧ ts[i]? = some a ∧ ts[j]? = some b
theorem RowOf.left {ts us : List PT} {t : PT} {r : Row} (h : RowOf ts t r) : RowOf (ts ++ us) t r := by
  refine ⟨h.1, h.2.1, ?_⟩
  have h3 := h.2.2
  cases t with
  | leaf w p => exact h3
  | node a b =>
    obtain ⟨i, j, e1, e2, e3, e4⟩ := h3
    exact ⟨i, j, e1, e2, by rw [List.getElem?_append_left (List.getElem?_eq_some_iff.mp e3).1]; exact e3, by rw [List.getElem?_append_left (List.getElem?_eq_some_iff.mp e4).1]; exact e4⟩
theorem RowOf.right {ts us : List PT} {t : PT} {r : Row} (h : RowOf ts t r) : RowOf (us ++ ts) t (r.shift us.length) := by
  have h3 := h.2.2
  cases t with
  | leaf w p =>
    have e : r.shift us.length = r := by
      unfold Row.shift
      rw [if_neg (by rw [h3.1]; decide)]
    rw [e]
    exact ⟨h.1, h.2.1, h3⟩
  | node a b =>
    obtain ⟨i, j, e1, e2, e3, e4⟩ := h3
    unfold Row.shift
    rw [if_pos (by rw [e1]; omega)]
    refine ⟨h.1, h.2.1, us.length + i, us.length + j, by rw [e1]; show (i : Int) + us.length = _; omega, by rw [e2]; show (j : Int) + us.length = _; omega, ?_, ?_⟩
    · rw [List.getElem?_append_right (by omega), Nat.add_sub_cancel_left]
      exact e3
    · rw [List.getElem?_append_right (by omega), Nat.add_sub_cancel_left]
      exact e4
theorem rows_of : ∀ (t : PT) (i : Nat) (s : PT) (r : Row), t.subs[i]? = some s → (rows t)[i]? = some r → RowOf t.subs s r
  | .leaf w p, i, s, r, h1, h2 => by
    match i, h1, h2 with
    | 0, h1, h2 =>
      cases h1
      cases h2
      exact ⟨rfl, rfl, rfl, rfl⟩
    | i + 1, h1, h2 => simp [PT.subs] at h1
  | .node a b, i, s, r, h1, h2 => by
    have la := rows_len a
    have lb := rows_len b
    have pa := subs_pos a
    have pb := subs_pos b
    rw [PT.subs] at h1 ⊢
    rw [rows] at h2
    by_cases c1 : i < a.subs.length
    · rw [List.append_assoc, List.getElem?_append_left c1] at h1
      rw [List.append_assoc, List.getElem?_append_left (by omega)] at h2
      rw [List.append_assoc]
      exact (rows_of a i s r h1 h2).left
    · by_cases c2 : i < (a.subs ++ b.subs).length
      · rw [List.getElem?_append_left c2, List.getElem?_append_right (by omega)] at h1
        rw [List.length_append] at c2
        rw [List.getElem?_append_left (by rw [List.length_append, List.length_map]; omega), List.getElem?_append_right (by omega), la, List.getElem?_map] at h2
        obtain ⟨r0, hr0, rfl⟩ := Option.map_eq_some_iff.mp h2
        have := (rows_of b (i - a.subs.length) s r0 h1 hr0).right (us := a.subs)
        exact this.left
      · have li : i < (a.subs ++ b.subs ++ [PT.node a b]).length := (List.getElem?_eq_some_iff.mp h1).1
        rw [List.length_append (as := a.subs ++ b.subs), List.length_singleton] at li
        have ei : i = (a.subs ++ b.subs).length := by omega
        subst ei
        rw [List.getElem?_append_right (Nat.le_refl _), Nat.sub_self] at h1
        cases h1
        rw [List.length_append] at h2
        rw [List.getElem?_append_right (by rw [List.length_append, List.length_map]; omega)] at h2
        have e0 : a.subs.length + b.subs.length - (rows a ++ (rows b).map (Row.shift (rows a).length)).length = 0 := by rw [List.length_append, List.length_map]; omega
        rw [e0] at h2
        cases h2
        refine ⟨rfl, rfl, a.subs.length - 1, a.subs.length + b.subs.length - 1, by show ((rows a).length : Int) - 1 = _; rw [la]; omega, by show ((rows a).length : Int) + (rows b).length - 1 = _; rw [la, lb]; omega, ?_, ?_⟩
        · rw [List.append_assoc, List.getElem?_append_left (by omega)]
          exact subs_last a
        · rw [List.append_assoc, List.getElem?_append_right (by omega), List.getElem?_append_left (by omega), show a.subs.length + b.subs.length - 1 - a.subs.length = b.subs.length - 1 by omega]
          exact subs_last b
/-- the words at the places -/
def Lab (ws : List Wd) : PT → Prop
  | .leaf w p => ws[p]? = some w
  | .node l r => Lab ws l ∧ Lab ws r
theorem Lab.app {ws us : List Wd} : ∀ {t : PT}, Lab ws t → Lab (ws ++ us) t
  | .leaf w p, h => by
    have h : ws[p]? = some w := h
    show (ws ++ us)[p]? = some w
    rw [List.getElem?_append_left (List.getElem?_eq_some_iff.mp h).1]
    exact h
  | .node l r, h => ⟨h.1.app, h.2.app⟩
theorem Lab.words {ws : List Wd} : ∀ {t : PT}, Lab ws t → t.pl.map (fun p => ws[p]?) = (leaves t.er).map some
  | .leaf w p, h => by
    have h : ws[p]? = some w := h
    simp [PT.pl, PT.er, leaves, h]
  | .node l r, h => by simp [PT.pl, PT.er, leaves, h.1.words, h.2.words]
theorem Lab.sub {ws : List Wd} : ∀ {t s : PT}, Lab ws t → s ∈ t.subs → Lab ws s
  | .leaf w p, s, h, hs => by
    rw [List.mem_singleton.mp hs]
    exact h
  | .node l r, s, h, hs => by
    rcases List.mem_append.mp hs with z | z
    · rcases List.mem_append.mp z with z | z
      · exact h.1.sub z
      · exact h.2.sub z
    · rw [List.mem_singleton.mp z]
      exact h
/-! the node above -/
def kid (n : Tr) : Tr → Prop
  | .leaf _ => False
  | .node l r => n = l ∨ n = r
theorem kid_sub : ∀ {T n p : Tr}, p ∈ nodes T → kid n p → n ∈ nodes T ∧ (leaves n).length < (leaves T).length
  | .leaf w, n, p, hp, k => by
    rw [List.mem_singleton.mp hp] at k
    exact k.elim
  | .node l r, n, p, hp, k => by
    have p1 : 1 ≤ (leaves l).length := List.length_pos_iff.mpr (leaves_pos l)
    have p2 : 1 ≤ (leaves r).length := List.length_pos_iff.mpr (leaves_pos r)
    have e : (leaves (Tr.node l r)).length = (leaves l).length + (leaves r).length := List.length_append
    rcases List.mem_append.mp hp with z | z
    · rcases List.mem_append.mp z with z | z
      · have := kid_sub z k
        exact ⟨List.mem_append_left _ (List.mem_append_left _ this.1), by omega⟩
      · have := kid_sub z k
        exact ⟨List.mem_append_left _ (List.mem_append_right _ this.1), by omega⟩
    · rw [List.mem_singleton.mp z] at k
      rcases k with rfl | rfl
      · exact ⟨List.mem_append_left _ (List.mem_append_left _ (self_mem _)), by omega⟩
      · exact ⟨List.mem_append_left _ (List.mem_append_right _ (self_mem _)), by omega⟩
theorem kid_one : ∀ {T n p q : Tr}, (leaves T).Nodup → p ∈ nodes T → q ∈ nodes T → kid n p → kid n q → p = q
  | .leaf w, n, p, q, _, hp, _, k, _ => by
    rw [List.mem_singleton.mp hp] at k
    exact k.elim
  | .node l r, n, p, q, nd, hp, hq, k1, k2 => by
    have ndl := (List.nodup_append.mp (show (leaves l ++ leaves r).Nodup from nd)).1
    have ndr := (List.nodup_append.mp (show (leaves l ++ leaves r).Nodup from nd)).2.1
    have nb : ∀ {x : Tr}, x ∈ nodes l → x ∈ nodes r → False := fun a b => not_both nd a b
    have root : ∀ {p : Tr}, (p ∈ nodes l ∨ p ∈ nodes r) → kid n p → ¬ (n = l ∨ n = r) := fun {p} hp k z => by
      rcases hp with hp | hp
      · have := kid_sub hp k
        rcases z with rfl | rfl
        · exact absurd this.2 (Nat.lt_irrefl _)
        · exact nb this.1 (self_mem _)
      · have := kid_sub hp k
        rcases z with rfl | rfl
        · exact nb (self_mem _) this.1
        · exact absurd this.2 (Nat.lt_irrefl _)
    have cs : ∀ {x : Tr}, x ∈ nodes (Tr.node l r) → x ∈ nodes l ∨ x ∈ nodes r ∨ x = Tr.node l r := fun {x} h => by
      rcases List.mem_append.mp h with z | z
      · rcases List.mem_append.mp z with z | z
        · exact .inl z
        · exact .inr (.inl z)
      · exact .inr (.inr (List.mem_singleton.mp z))
    rcases cs hp with z1 | z1 | rfl
    · rcases cs hq with z2 | z2 | rfl
      · exact kid_one ndl z1 z2 k1 k2
      · exact (nb (kid_sub z1 k1).1 (kid_sub z2 k2).1).elim
      · exact absurd k2 (root (.inl z1) k1)
    · rcases cs hq with z2 | z2 | rfl
      · exact (nb (kid_sub z2 k2).1 (kid_sub z1 k1).1).elim
      · exact kid_one ndr z1 z2 k1 k2
      · exact absurd k2 (root (.inr z1) k1)
    · rcases cs hq with z2 | z2 | rfl
      · exact absurd k1 (root (.inl z2) k2)
      · exact absurd k1 (root (.inr z2) k2)
      · rfl
end P20

set_option Elab.async false
set_option linter.all false
/-! QQ20: texts written with other spaces; strange deeds -/
namespace P20
open Tr
theorem run_pre (p : List Wd) : ∀ (x : List Nat) (o : List Wd) (a : Wd), run (p ++ o, a) x = (p ++ (run (o, a) x).1, (run (o, a) x).2)
  | [], o, a => rfl
  | c :: x, o, a => by
    show run (step (p ++ o, a) c) x = _
    have e : run (o, a) (c :: x) = run (step (o, a) c) x := rfl
    rw [e]
    unfold step
    by_cases h1 : c = 32
    · rw [if_pos h1, if_pos h1]
      dsimp only
      rw [List.append_assoc]
      exact run_pre p x _ _
    · rw [if_neg h1, if_neg h1]
      by_cases h2 : c = 40 ∨ c = 41
      · rw [if_pos h2, if_pos h2]
        dsimp only
        rw [List.append_assoc, List.append_assoc, ← List.append_assoc o]
        exact run_pre p x _ _
      · rw [if_neg h2, if_neg h2]
        exact run_pre p x _ _
theorem run_spaces (o : List Wd) (a : Wd) : ∀ k : Nat, run (o, a) (List.replicate k 32) = if k = 0 then (o, a) else (o ++ fl a, [])
  | 0 => rfl
  | k + 1 => by
    rw [List.replicate_succ, run_space, if_neg (by omega), run_spaces _ _ k, fl_nil, List.append_nil]
    by_cases h : k = 0
    · rw [if_pos h]
    · rw [if_neg h]
def Brk (w : Wd) : Prop := w = [40] ∨ w = [41]
instance (w : Wd) : Decidable (Brk w) := inferInstanceAs (Decidable (_ ∨ _))
/-- x writes the words ws, the last one last -/
structure Wrt (x : List Nat) (ws : List Wd) (last : Wd) : Prop where
  ex : ∃ o a, run ([], []) x = (o, a) ∧ o ++ fl a = ws ∧ (Brk last → a = [])
theorem Wrt.start {k : Nat} : Wrt (List.replicate k 32) [] [40] := ⟨by
  rw [run_spaces]
  by_cases h : k = 0
  · rw [if_pos h]; exact ⟨_, _, rfl, rfl, fun _ => rfl⟩
  · rw [if_neg h]; exact ⟨_, _, rfl, rfl, fun _ => rfl⟩⟩
theorem Wrt.next {x : List Nat} {ws : List Wd} {last w : Wd} {k : Nat} (h : Wrt x ws last) (hw : Brk w ∨ Name w) (hk : (Brk last ∨ Brk w) ∨ 1 ≤ k) : Wrt (x ++ List.replicate k 32 ++ w) (ws ++ [w]) w := by
  obtain ⟨o, a, h1, h2, h3⟩ := h
  obtain ⟨o2, a2, r2, e2, z2⟩ : ∃ o2 a2, run ([], []) (x ++ List.replicate k 32) = (o2, a2) ∧ o2 ++ fl a2 = ws ∧ (¬ Brk w → a2 = []) := by
    rw [run_app, h1, run_spaces]
    by_cases h : k = 0
    · rw [if_pos h]
      refine ⟨_, _, rfl, h2, fun nb => ?_⟩
      rcases hk with (hk | hk) | hk
      · exact h3 hk
      · exact absurd hk nb
      · omega
    · rw [if_neg h]
      exact ⟨_, _, rfl, by rw [fl_nil, List.append_nil]; exact h2, fun _ => rfl⟩
  refine ⟨?_⟩
  rw [run_app, r2]
  rcases hw with hw | hw
  · rcases hw with rfl | rfl
    · exact ⟨_, _, rfl, by rw [fl_nil, List.append_nil, e2], fun _ => rfl⟩
    · exact ⟨_, _, rfl, by rw [fl_nil, List.append_nil, e2], fun _ => rfl⟩
  · have nb : ¬ Brk w := fun z => by
      rcases z with z | z
      · exact hw.plain.1 z
      · exact hw.plain.2 z
    obtain rfl := z2 nb
    rw [run_name hw]
    rw [fl_nil, List.append_nil] at e2
    exact ⟨_, _, rfl, by rw [fl_ne hw.ne, e2], fun z => absurd z nb⟩
theorem Wrt.done {x : List Nat} {ws : List Wd} {last : Wd} {k : Nat} (h : Wrt x ws last) : words (x ++ List.replicate k 32) = ws := by
  obtain ⟨o, a, h1, h2, h3⟩ := h
  unfold words
  rw [run_app, h1, run_spaces]
  by_cases h : k = 0
  · rw [if_pos h]
    exact h2
  · rw [if_neg h]
    unfold fin
    rw [fl_nil, List.append_nil]
    exact h2
/-- a word, spaces, then the words of x -/
theorem words_front {u x : List Nat} {k : Nat} (hu : Name u) (hk : 1 ≤ k) : words (u ++ List.replicate k 32 ++ x) = u :: words x := by
  unfold words
  rw [run_app, run_app, run_name hu, run_spaces, if_neg (by omega), fl_ne hu.ne]
  have e := run_pre [u] x [] []
  rw [List.append_nil] at e
  rw [List.nil_append, e]
  rfl
theorem words_front1 {u x : List Nat} (hu : Name u) : words (u ++ 32 :: x) = u :: words x := by
  have := words_front (x := x) hu (Nat.le_refl 1)
  rw [List.append_assoc] at this
  exact this
/-- behind a tree's text comes a space -/
theorem words_two {t : Tr} {x : List Nat} (h : Ok t) : words (spell t ++ 32 :: x) = toks t ++ words x := by
  obtain ⟨o, a, h1, h2⟩ := run_spell (o := []) h
  unfold words
  rw [run_app, h1, run_space, h2]
  have e := run_pre (toks t) x [] []
  rw [List.append_nil] at e
  rw [List.nil_append, e]
  unfold fin
  rw [List.append_assoc]
theorem words_close {t : Tr} (h : Ok t) : words (spell t ++ [41]) = toks t ++ [[41]] := by
  obtain ⟨o, a, h1, h2⟩ := run_spell (o := []) h
  unfold words
  rw [run_app, h1, run_41, h2, List.nil_append]
  show toks t ++ [[41]] ++ fl [] = _
  rw [fl_nil, List.append_nil]
theorem words_opened {t : Tr} (h : Ok t) : words (40 :: spell t) = [40] :: toks t := by
  obtain ⟨o, a, h1, h2⟩ := run_spell (o := [[40]]) h
  unfold words
  rw [run_40, fl_nil]
  show fin (run ([] ++ [] ++ [[40]], []) (spell t)) = _
  rw [List.append_nil, List.nil_append, h1]
  exact h2
theorem toks_ne (t : Tr) : ∃ w r, toks t = w :: r := by
  cases t with
  | leaf w => exact ⟨w, [], rfl⟩
  | node l r => exact ⟨_, _, rfl⟩
theorem toks_word {t : Tr} (h : Ok t) : ∀ w ∈ toks t, Brk w ∨ Name w := by
  induction t with
  | leaf w =>
    intro v hv
    rw [List.mem_singleton.mp hv]
    exact .inr h.name
  | node l r il ir =>
    intro v hv
    rcases List.mem_cons.mp hv with rfl | hv
    · exact .inl (.inl rfl)
    · rcases List.mem_append.mp hv with hv | hv
      · exact il h.l v hv
      · rcases List.mem_append.mp hv with hv | hv
        · exact ir h.r v hv
        · rw [List.mem_singleton.mp hv]
          exact .inl (.inr rfl)
/-- a deed goes back -/
theorem put_back {n new : Tr} (hp : (leaves new).Perm (leaves n)) : ∀ {t : Tr}, (leaves t).Nodup → n ∈ nodes t → put new n (put n new t) = t
  | leaf w, nd, hn => by
    have e := List.mem_singleton.mp hn
    subst e
    rw [show put (leaf w) new (leaf w) = new from if_pos rfl]
    cases new with
    | leaf v => exact if_pos rfl
    | node l r => exact if_pos rfl
  | node l r, nd, hn => by
    by_cases e : node l r = n
    · subst e
      rw [show put (node l r) new (node l r) = new from if_pos rfl]
      cases new with
      | leaf v => exact if_pos rfl
      | node l r => exact if_pos rfl
    · have nd2 : (leaves l ++ leaves r).Nodup := nd
      have nl := (List.nodup_append.mp nd2).1
      have nr := (List.nodup_append.mp nd2).2.1
      rw [show put n new (node l r) = node (put n new l) (put n new r) from if_neg e]
      have hlr : n ∈ nodes l ∨ n ∈ nodes r := by
        rcases List.mem_append.mp hn with z | z
        · exact List.mem_append.mp z
        · exact absurd (List.mem_singleton.mp z).symm e
      have len : (leaves new).length = (leaves n).length := hp.length_eq
      have big : ∀ a b : Tr, (leaves a).length = (leaves l).length → (leaves b).length = (leaves r).length → node a b ≠ new := fun a b ha hb z => by
        have h1 : (leaves new).length = (leaves l).length + (leaves r).length := by rw [← z, leaves, List.length_append, ha, hb]
        have h2 : 1 ≤ (leaves l).length := leaves_len (l := l) (r := r)
        have h3 : 1 ≤ (leaves r).length := leaves_len (l := r) (r := l)
        rcases hlr with z | z
        · have := sub_len z
          omega
        · have := sub_len z
          omega
      have pl : ∀ t : Tr, (leaves (put n new t)).length = (leaves t).length := fun t => (put_permX hp t).length_eq
      rw [show put new n (node (put n new l) (put n new r)) = node (put new n (put n new l)) (put new n (put n new r)) from if_neg (big _ _ (pl l) (pl r))]
      have notin : ∀ {a b : Tr}, (leaves a ++ leaves b).Nodup → n ∈ nodes a → n ∉ nodes b ∧ new ∉ nodes b := fun {a b} ndab ha => by
        refine ⟨fun hb => not_both ndab ha hb, fun hb => ?_⟩
        obtain ⟨w, hw⟩ := List.exists_mem_of_ne_nil _ (leaves_pos new)
        exact (List.nodup_append.mp ndab).2.2 w (mem_leaves ha w (hp.mem_iff.mp hw)) w (mem_leaves hb w hw) rfl
      rcases hlr with z | z
      · obtain ⟨h1, h2⟩ := notin nd2 z
        rw [put_back hp nl z, put_id h1, put_id h2]
      · obtain ⟨h1, h2⟩ := notin (List.perm_append_comm.nodup_iff.mp nd2) z
        rw [put_back hp nr z, put_id h1, put_id h2]
where put_permX {old new : Tr} (h : (leaves new).Perm (leaves old)) : ∀ t : Tr, (leaves (put old new t)).Perm (leaves t)
  | leaf w => by
    unfold put
    by_cases e : leaf w = old
    · rw [if_pos e, e]
      exact h
    · rw [if_neg e]
  | node l r => by
    unfold put
    by_cases e : node l r = old
    · rw [if_pos e, e]
      exact h
    · rw [if_neg e]
      exact List.Perm.append (put_permX h l) (put_permX h r)
theorem put_mem {n new : Tr} : ∀ {t : Tr}, n ∈ nodes t → new ∈ nodes (put n new t)
  | leaf w, hn => by
    rw [List.mem_singleton.mp hn, show put (leaf w) new (leaf w) = new from if_pos rfl]
    exact self_mem new
  | node l r, hn => by
    by_cases e : node l r = n
    · rw [show put n new (node l r) = new from if_pos e]
      exact self_mem new
    · rw [show put n new (node l r) = node (put n new l) (put n new r) from if_neg e]
      rcases List.mem_append.mp hn with z | z
      · rcases List.mem_append.mp z with z | z
        · exact List.mem_append_left _ (List.mem_append_left _ (put_mem z))
        · exact List.mem_append_left _ (List.mem_append_right _ (put_mem z))
      · exact absurd (List.mem_singleton.mp z).symm e
end P20

set_option Elab.async false
set_option linter.all false
set_option maxRecDepth 100000
set_option maxHeartbeats 4000000
/-! FF20: _law_spaced, _law_back -/
namespace W20
open PySem PySem.Spec PyProof.Rows L2 Lay
open SX (S S_len S_cat S_tl)
open C8 (Cal pe_c pe_gc fnScope_by E0)
theorem z012 {v : V} (h : v ∈ ([.int 0, .int 0, .int 1, .int 2] : List V)) : ∃ n : Nat, v = .int (n : Int) ∧ n ≤ 2 := by
  simp only [List.mem_cons, List.not_mem_nil, or_false] at h
  rcases h with rfl | rfl | rfl | rfl
  · exact ⟨0, rfl, by decide⟩
  · exact ⟨0, rfl, by decide⟩
  · exact ⟨1, rfl, by decide⟩
  · exact ⟨2, rfl, by decide⟩
theorem z113 {v : V} (h : v ∈ ([.int 1, .int 1, .int 1, .int 3] : List V)) : ∃ n : Nat, v = .int (n : Int) ∧ 1 ≤ n ∧ n ≤ 3 := by
  simp only [List.mem_cons, List.not_mem_nil, or_false] at h
  rcases h with rfl | rfl | rfl | rfl
  · exact ⟨1, rfl, by decide, by decide⟩
  · exact ⟨1, rfl, by decide, by decide⟩
  · exact ⟨1, rfl, by decide, by decide⟩
  · exact ⟨3, rfl, by decide, by decide⟩
theorem z001 {v : V} (h : v ∈ ([.int 0, .int 0, .int 0, .int 1] : List V)) : ∃ n : Nat, v = .int (n : Int) ∧ n ≤ 1 := by
  simp only [List.mem_cons, List.not_mem_nil, or_false] at h
  rcases h with rfl | rfl | rfl | rfl
  · exact ⟨0, rfl, by decide⟩
  · exact ⟨0, rfl, by decide⟩
  · exact ⟨0, rfl, by decide⟩
  · exact ⟨1, rfl, by decide⟩
theorem rin_brk {K : PySem.W.Frag} {H : Hp} {p : Addr} {u : List Nat} {R : VK} (h : H p = some (.tup [.str (Str.ofString "("), .str (Str.ofString ")")])) (k : R (.bl (decide (P20.Brk u))) H) : rIn K false (.str (S u)) (.ref p) H R := by
  refine ⟨p, [Str.ofString "(", Str.ofString ")"].map V.str, rfl, .inr (sqT_of h), rfl, by decide, ?_⟩
  rw [if_neg (by decide), inV_S]
  have e : decide (u ∈ [Str.ofString "(", Str.ofString ")"].map fun x : Str => x.cps.toList) = decide (P20.Brk u) := by
    have e1 : ([Str.ofString "(", Str.ofString ")"].map fun x : Str => x.cps.toList) = [[40], [41]] := by decide +kernel
    rw [e1, Bool.eq_iff_iff, decide_eq_true_eq, decide_eq_true_eq]
    unfold P20.Brk
    simp
  rw [e]
  exact k
section
variable {P : Program} {w : World} {K : PySem.W.Frag} {mg : Str → Option Value} {base : Heap} {f : Addr} {fd : FuncData}
theorem sc52 : FnScope ["bag", "words", "made", "last", "word", "bare"] ["bag", "words"] (defScope (top 54)) := fnScope_by (by decide +kernel)
def spSpaced : Sp := fun vs H Q _ => ∃ (b l : Addr) (ws : List P20.Wd), vs = [.ref b, .ref l] ∧ Bag H b ∧ H l = some (wordsV ws) ∧ l ≠ b ∧ ws.length ≤ 200 ∧ (∀ u ∈ ws, (P20.Brk u ∨ P20.Name u) ∧ u.length ≤ 10) ∧
  ∀ H' x, Ex b H H' → P20.words x = ws → x.length ≤ 3000 → Q (.str (S x)) H'
theorem ok_spaced (m : Mg K mg) (c__law_of : Cal P w K mg base 2 "_law_of" spPick []) (F : Fn K "_law_spaced" 54 f fd) (g : mg "_law_spaced" = some (.ref f)) : Cal P w K mg base 3 "_law_spaced" spSpaced [] := by
  have sc := sc52
  refine calD F g sc (fun _ _ _ _ _ _ us hl => match us, hl with | [_, _], _ => rfl) ?_ fun cdv A outer s H vs Q E hr h => ?_
  · rintro vs H Q E ⟨b, l, ws, rfl, _⟩
    rfl
  · obtain ⟨b, l, ws, rfl, bag, hl, lb, few, good, q⟩ := h
    refine ⟨_, (pss_cons (ps_set (i := 2) sc.nd rfl (.inl rfl) (pe_op op_repN pe_str (pe_c c__law_of hr (by decide) (by rfl) (pa_cons (pv 0) (pa_cons (pe_lst (pa_cons pe_int (pa_cons pe_int (pa_cons pe_int (pa_cons pe_int pa_nil))))) pa_nil)))))
      (pss_cons (ps_set (i := 3) sc.nd rfl (.inl rfl) pe_str)
      (pss_cons (ps_for pown rfl (pi_list (pv 1)) (pg_name (i := 4) sc.nd rfl (.inl rfl))
        (pss_cons (ps_set (i := 5) sc.nd rfl (.inl rfl) (pe_or (pe_cmpR op_in_seq (pv 3) (pe_tup (pa_cons pe_str (pa_cons pe_str pa_nil))) rfl) (pe_one (pe_cmpR op_in_seq (pv 4) (pe_tup (pa_cons pe_str (pa_cons pe_str pa_nil))) rfl))))
        (pss_cons (ps_set (i := 2) sc.nd rfl (.inl rfl) (pe_op op_add_str (pe_op op_add_str (pv 2) (pe_op op_repN pe_str (pe_c c__law_of hr (by decide) (by rfl) (pa_cons (pv 0) (pa_cons (pe_ifExp (pt_val (pv 5)) (pe_lst (pa_cons pe_int (pa_cons pe_int (pa_cons pe_int (pa_cons pe_int pa_nil))))) (pe_lst (pa_cons pe_int (pa_cons pe_int (pa_cons pe_int (pa_cons pe_int pa_nil)))))) pa_nil))))) (pv 4)))
        (pss_one (ps_set (i := 3) sc.nd rfl (.inl rfl) (pv 4))))))
      (pss_one (ps_ret (pe_op op_add_str (pv 2) (pe_op op_repN pe_str (pe_c c__law_of hr (by decide) (by rfl) (pa_cons (pv 0) (pa_cons (pe_lst (pa_cons pe_int (pa_cons pe_int (pa_cons pe_int (pa_cons pe_int pa_nil))))) pa_nil)))))))))), ?_⟩
    have szl := sizeLine_eq
    simp only [L2.start, cxOf, tRet, tAndV, tOrV, tNotV, tCB, tCons, tNil, tVar, tC, tOp, tUn, tTest, tB, tSeq, tAsg, tNot, gName, tNext, tCall, tChain, rI, rI0, rEq, rNe, rGcd, rU, tM1, tM0, tSl, tPart, tNoPart, gTup, gCons, gNil, gSub, tTup, tLst, tPar, L2.rI, List.map_cons, List.map_nil, List.length_cons, List.length_nil, List.cons_append, List.nil_append, List.append_nil, List.getElem?_cons_zero, List.getElem?_cons_succ, List.set_cons_zero, List.set_cons_succ, Option.some.injEq, exists_eq_left, exists_eq_left', exists_eq_right, exists_and_left, exists_and_right, List.cons.injEq, and_true, true_and, V.int.injEq, V.str.injEq, V.bl.injEq, V.ref.injEq, List.replicate, Nat.reduceAdd, Nat.reduceSub, reduceCtorEq, false_and, and_false, if_true, if_false, Bool.false_eq_true, Bool.not_true, Bool.not_false, decide_eq_true_eq, exists_false, or_false, false_or]
    have e32 : (Str.ofString " ") = S [32] := by decide +kernel
    have e40 : (Str.ofString "(") = S [40] := by decide +kernel
    refine ⟨small (by decide), fun p hp => pick_new bag hp (by simp) (by simp) fun H1 v x1 hv => ?_⟩
    obtain ⟨n, rfl, hn⟩ : ∃ n : Nat, v = .int (n : Int) ∧ n ≤ 2 := by
      simp only [List.mem_cons, List.not_mem_nil, or_false] at hv
      rcases hv with rfl | rfl | rfl | rfl
      · exact ⟨0, rfl, by decide⟩
      · exact ⟨0, rfl, by decide⟩
      · exact ⟨1, rfl, by decide⟩
      · exact ⟨2, rfl, by decide⟩
    rw [e32]
    refine ⟨32, n, rfl, rfl, by omega, ?_⟩
    have hl1 := x1.keep l _ lb hl
    refine for_list_at (l := l) (xs := wV ws) (fun R k => ⟨_, rfl, k⟩) (SqL.of hl1) ⟨fun i σ' H' => ∃ (x last : List Nat) (y4 y5 : Option V), σ' = [some (.ref b), some (.ref l), some (.str (S x)), some (.str (S last)), y4, y5] ∧ Ex b H H' ∧ P20.Wrt x (ws.take i) last ∧ x.length ≤ 2 + 13 * i,
      ⟨List.replicate n 32, [40], none, none, by rw [e40], x1, by rw [List.take_zero]; exact P20.Wrt.start, by rw [List.length_replicate]; omega⟩, ?_, ?_, ?_⟩
    · rintro i σ' H' _ ⟨x, last, y4, y5, rfl, x2, _⟩
      exact SqL.of (x2.keep l _ lb hl)
    · rintro i v σ' H' hv ⟨x, last, y4, y5, rfl, x2, wr, lx⟩
      rw [List.getElem?_map] at hv
      obtain ⟨u, hu, rfl⟩ : ∃ u, ws[i]? = some u ∧ V.str (S u) = v := by
        cases e : ws[i]? with
        | none => rw [e] at hv; cases hv
        | some u => rw [e] at hv; exact ⟨u, rfl, Option.some.inj hv⟩
      obtain ⟨hi, eu⟩ := List.getElem?_eq_some_iff.mp hu
      have tk : ws.take (i + 1) = ws.take i ++ [u] := by rw [List.take_succ_eq_append_getElem hi, eu]
      obtain ⟨gu, lu⟩ := good u (List.mem_of_getElem? hu)
      simp only [L2.start, cxOf, tRet, tAndV, tOrV, tNotV, tCB, tCons, tNil, tVar, tC, tOp, tUn, tTest, tB, tIf, tIfS, tSeq, tAsg, tAnd, tOr, tNot, gName, tNext, tCall, tChain, rI, rI0, rEq, rNe, rGcd, rU, tM1, tM0, tSl, tPart, tNoPart, gTup, gCons, gNil, gSub, tTup, tLst, tPar, L2.rI, List.map_cons, List.map_nil, List.length_cons, List.length_nil, List.cons_append, List.nil_append, List.append_nil, List.getElem?_cons_zero, List.getElem?_cons_succ, List.set_cons_zero, List.set_cons_succ, Option.some.injEq, exists_eq_left, exists_eq_left', exists_eq_right, exists_and_left, exists_and_right, List.cons.injEq, and_true, true_and, V.int.injEq, V.str.injEq, V.bl.injEq, V.ref.injEq, List.replicate, Nat.reduceAdd, Nat.reduceSub, reduceCtorEq, false_and, and_false, if_true, if_false, Bool.false_eq_true, Bool.not_true, Bool.not_false, decide_eq_true_eq, exists_false, or_false, false_or]
      refine ⟨small (by decide), fun p1 hp1 => rin_brk upd_same ⟨_, rfl, ?_⟩⟩
      have x2a := x2.sm (same_new (o := .tup [V.str (Str.ofString "("), V.str (Str.ofString ")")]) hp1)
      by_cases b1 : P20.Brk last
      · rw [if_pos (decide_eq_true b1)]
        refine ⟨small (by decide), fun p3 hp3 => pick_new x2a.bag hp3 (by simp) (by simp) fun H3 v x3 hv => ?_⟩
        obtain ⟨k, rfl, hk⟩ := z012 hv
        have x3 := x2a.tr x3
        refine ⟨32, k, rfl, rfl, by omega, ?_⟩
        refine ⟨_, rfl, ?_, ?_, x ++ List.replicate k 32 ++ u, u, ⟨by rw [S_cat, S_cat], rfl, _, rfl⟩, x3, by rw [tk]; exact wr.next gu (.inl (.inl b1)), ?_⟩
        all_goals
          simp only [S_cat, S_len, List.length_append, List.length_replicate, szl]
          omega
      · rw [if_neg (fun z => b1 (of_decide_eq_true z))]
        refine ⟨small (by decide), fun p2 hp2 => rin_brk upd_same ⟨_, rfl, ?_⟩⟩
        have x2b := x2a.sm (same_new (o := .tup [V.str (Str.ofString "("), V.str (Str.ofString ")")]) hp2)
        by_cases b2 : P20.Brk u
        · rw [if_pos (decide_eq_true b2)]
          refine ⟨small (by decide), fun p3 hp3 => pick_new x2b.bag hp3 (by simp) (by simp) fun H3 v x3 hv => ?_⟩
          obtain ⟨k, rfl, hk⟩ := z012 hv
          have x3 := x2b.tr x3
          refine ⟨32, k, rfl, rfl, by omega, ?_⟩
          refine ⟨_, rfl, ?_, ?_, x ++ List.replicate k 32 ++ u, u, ⟨by rw [S_cat, S_cat], rfl, _, rfl⟩, x3, by rw [tk]; exact wr.next gu (.inl (.inr b2)), ?_⟩
          all_goals
            simp only [S_cat, S_len, List.length_append, List.length_replicate, szl]
            omega
        · rw [if_neg (fun z => b2 (of_decide_eq_true z))]
          refine ⟨small (by decide), fun p3 hp3 => pick_new x2b.bag hp3 (by simp) (by simp) fun H3 v x3 hv => ?_⟩
          obtain ⟨k, rfl, h1k, hk⟩ := z113 hv
          have x3 := x2b.tr x3
          refine ⟨32, k, rfl, rfl, by omega, ?_⟩
          refine ⟨_, rfl, ?_, ?_, x ++ List.replicate k 32 ++ u, u, ⟨by rw [S_cat, S_cat], rfl, _, rfl⟩, x3, by rw [tk]; exact wr.next gu (.inr h1k), ?_⟩
          all_goals
            simp only [S_cat, S_len, List.length_append, List.length_replicate, szl]
            omega
    · rintro σ' H' ⟨x, last, y4, y5, rfl, x2, wr, lx⟩
      simp only [L2.start, cxOf, tRet, tAndV, tOrV, tNotV, tCB, tCons, tNil, tVar, tC, tOp, tUn, tTest, tB, tIf, tIfS, tSeq, tAsg, tAnd, tOr, tNot, gName, tNext, tCall, tChain, rI, rI0, rEq, rNe, rGcd, rU, tM1, tM0, tSl, tPart, tNoPart, gTup, gCons, gNil, gSub, tTup, tLst, tPar, L2.rI, List.map_cons, List.map_nil, List.length_cons, List.length_nil, List.cons_append, List.nil_append, List.append_nil, List.getElem?_cons_zero, List.getElem?_cons_succ, List.set_cons_zero, List.set_cons_succ, Option.some.injEq, exists_eq_left, exists_eq_left', exists_eq_right, exists_and_left, exists_and_right, List.cons.injEq, and_true, true_and, V.int.injEq, V.str.injEq, V.bl.injEq, V.ref.injEq, List.replicate, Nat.reduceAdd, Nat.reduceSub, reduceCtorEq, false_and, and_false, if_true, if_false, Bool.false_eq_true, Bool.not_true, Bool.not_false, decide_eq_true_eq, exists_false, or_false, false_or]
      refine ⟨small (by decide), fun p3 hp3 => pick_new x2.bag hp3 (by simp) (by simp) fun H3 v x3 hv => ?_⟩
      obtain ⟨k, rfl, hk⟩ := z001 hv
      rw [List.length_map] at lx
      refine ⟨32, k, rfl, rfl, by omega, _, rfl, ?_, ?_⟩
      · simp only [S_len, List.length_replicate, szl]
        omega
      · rw [S_cat]
        rw [List.length_map, List.take_length] at wr
        refine q _ _ (x2.tr x3) wr.done ?_
        simp only [List.length_append, List.length_replicate]
        omega
end
end W20

set_option Elab.async false
set_option linter.all false
set_option maxRecDepth 100000
set_option maxHeartbeats 4000000
/-! MX20: _law_mix -/
namespace W20
open PySem PySem.Spec PyProof.Rows L2 Lay
open SX (S S_len S_cat S_tl)
open C8 (Cal pe_c pe_gc fnScope_by E0)
theorem er_map {α β : Type} (f : α → β) : ∀ (xs : List α) (k : Nat), (xs.map f).eraseIdx k = (xs.eraseIdx k).map f
  | [], _ => rfl
  | _ :: _, 0 => rfl
  | x :: xs, k + 1 => by
    show f x :: (xs.map f).eraseIdx k = f x :: (xs.eraseIdx k).map f
    rw [er_map f xs k]
theorem er_perm {α : Type} : ∀ {xs : List α} {k : Nat} (h : k < xs.length), (xs[k] :: xs.eraseIdx k).Perm xs
  | x :: xs, 0, _ => List.Perm.refl _
  | x :: xs, k + 1, h => (List.Perm.swap x (xs[k]'(Nat.lt_of_succ_lt_succ h)) (xs.eraseIdx k)).trans (List.Perm.cons x (er_perm (Nat.lt_of_succ_lt_succ h)))
theorem new_ne' {b a : Addr} {H : Hp} (g : Bag H b) (h : H a = none) : a ≠ b := (bag_new (o := .lst []) g h).1
section
variable {P : Program} {w : World} {K : PySem.W.Frag} {mg : Str → Option Value} {base : Heap} {f : Addr} {fd : FuncData}
theorem sd46 : FnScope ["bag", "things", "left", "made", "k"] ["bag", "things"] (defScope (top 38)) := fnScope_by (by decide +kernel)
def spMix : Sp := fun vs H Q _ => ∃ (b t : Addr) (ws : List V), vs = [.ref b, .ref t] ∧ Bag H b ∧ H t = some (.lst ws) ∧ t ≠ b ∧ ws.length ≤ 100 ∧ ∀ H' a ys, Ex b H H' → H a = none → H' a = some (.lst ys) → ys.Perm ws → Q (.ref a) H'
theorem ok_mix (m : Mg K mg) (c__law_draw : Cal P w K mg base 1 "_law_draw" spDraw []) (F : Fn K "_law_mix" 38 f fd) (g : mg "_law_mix" = some (.ref f)) : Cal P w K mg base 2 "_law_mix" spMix [] := by
  have sc := sd46
  refine calD F g sc (fun _ _ _ _ _ _ us hl => match us, hl with | [_, _], _ => rfl) ?_ fun cdv A outer s H vs Q E hr h => ?_
  · rintro vs H Q E ⟨b, t, ws, rfl, _⟩
    rfl
  · obtain ⟨b, t, ws, rfl, bag, ht, tb, few, q⟩ := h
    refine ⟨_, (pss_cons (ps_set (i := 2) sc.nd rfl (.inl rfl) (pe_callTy call_list_of (by rfl) m.list_ boot_list (pa_cons (pv 1) pa_nil)))
      (pss_cons (ps_set (i := 3) sc.nd rfl (.inl rfl) (pe_lst pa_nil))
      (pss_cons (ps_for pown rfl (pi_range1 rfl m.range_ (pa_cons (pe_callB call_len (by rfl) m.len_ boot_len (pa_cons (pv 1) pa_nil)) pa_nil)) (pg_name (i := 4) sc.nd rfl (.inl rfl))
        (pss_one (ps_expr (pe_bm PySem.F.plainAttrs_list PySem.F.slot_list_append PySem.F.type_list_append mt_append (pv 3) (pa_cons (pe_bm PySem.F.plainAttrs_list PySem.F.slot_list_pop PySem.F.type_list_pop mt_popAt (pv 2) (pa_cons (pe_c c__law_draw hr (by decide) (by rfl) (pa_cons (pv 0) (pa_cons (pe_callB call_len (by rfl) m.len_ boot_len (pa_cons (pv 2) pa_nil)) pa_nil))) pa_nil)) pa_nil)))))
      (pss_one (ps_ret (pv 3)))))), ?_⟩
    have szl := sizeLine_eq
    refine seq_cut (fun σ' H' => ∃ pl, σ' = [some (.ref b), some (.ref t), some (.ref pl), none, none] ∧ H pl = none ∧ Ex b H H' ∧ H' pl = some (.lst ws)) (fun D' hrt hn => ?_) ?_
    · simp only [L2.start, cxOf, tRet, tAndV, tOrV, tNotV, tCB, tCons, tNil, tVar, tC, tOp, tUn, tTest, tB, tIf, tIfS, tSeq, tAsg, tAnd, tOr, tNot, gName, tNext, tCall, tChain, rI, rI0, rEq, rNe, rGcd, rU, tM1, tM0, tSl, tPart, tNoPart, gTup, gCons, gNil, gSub, tTup, tLst, tPar, L2.rI, List.map_cons, List.map_nil, List.length_cons, List.length_nil, List.cons_append, List.nil_append, List.append_nil, List.getElem?_cons_zero, List.getElem?_cons_succ, List.set_cons_zero, List.set_cons_succ, Option.some.injEq, exists_eq_left, exists_eq_left', exists_eq_right, exists_and_left, exists_and_right, List.cons.injEq, and_true, true_and, V.int.injEq, V.str.injEq, V.bl.injEq, V.ref.injEq, List.replicate, Nat.reduceAdd, Nat.reduceSub, reduceCtorEq, false_and, and_false, if_true, if_false, Bool.false_eq_true, Bool.not_true, Bool.not_false, decide_eq_true_eq, exists_false, or_false, false_or]
      exact ⟨_, .inl (SqL.of ht), fun p hp => hn _ _ ⟨p, rfl, hp, (Ex.rf bag).sm (same_new hp), upd_same⟩⟩
    rintro σ' H1 ⟨pl, rfl, npl, x1, hpl⟩
    refine seq_cut (fun σ' H' => ∃ pm, σ' = [some (.ref b), some (.ref t), some (.ref pl), some (.ref pm), none] ∧ H pm = none ∧ pm ≠ pl ∧ Ex b H H' ∧ H' pl = some (.lst ws) ∧ H' pm = some (.lst [])) (fun D' hrt hn => ?_) ?_
    · simp only [L2.start, cxOf, tRet, tAndV, tOrV, tNotV, tCB, tCons, tNil, tVar, tC, tOp, tUn, tTest, tB, tIf, tIfS, tSeq, tAsg, tAnd, tOr, tNot, gName, tNext, tCall, tChain, rI, rI0, rEq, rNe, rGcd, rU, tM1, tM0, tSl, tPart, tNoPart, gTup, gCons, gNil, gSub, tTup, tLst, tPar, L2.rI, List.map_cons, List.map_nil, List.length_cons, List.length_nil, List.cons_append, List.nil_append, List.append_nil, List.getElem?_cons_zero, List.getElem?_cons_succ, List.set_cons_zero, List.set_cons_succ, Option.some.injEq, exists_eq_left, exists_eq_left', exists_eq_right, exists_and_left, exists_and_right, List.cons.injEq, and_true, true_and, V.int.injEq, V.str.injEq, V.bl.injEq, V.ref.injEq, List.replicate, Nat.reduceAdd, Nat.reduceSub, reduceCtorEq, false_and, and_false, if_true, if_false, Bool.false_eq_true, Bool.not_true, Bool.not_false, decide_eq_true_eq, exists_false, or_false, false_or]
      refine ⟨small (by decide), fun p hp => hn _ _ ⟨p, rfl, ?_, (fun z => by rw [z, hpl] at hp; cases hp), x1.sm (same_new hp), same_new hp _ _ hpl, upd_same⟩⟩
      cases e : H p with
      | none => rfl
      | some o =>
        by_cases c : p = b
        · obtain ⟨l0, ns, pos, big, mixed, cnt, left, f1, _⟩ := x1.bag
          rw [c, f1] at hp
          cases hp
        · rw [x1.keep _ _ c e] at hp
          cases hp
    rintro σ' H2 ⟨pm, rfl, npm, pmpl, x2, hpl2, hpm2⟩
    have plb : pl ≠ b := new_ne' bag npl
    have pmb : pm ≠ b := new_ne' bag npm
    refine seq_cut (fun σ' H' => ∃ y4 ys, σ' = [some (.ref b), some (.ref t), some (.ref pl), some (.ref pm), y4] ∧ Ex b H H' ∧ H' pm = some (.lst ys) ∧ ys.Perm ws) (fun D' hrt hn => ?_) ?_
    · have lt : LenV K (.ref t) H2 ws.length := by
        have := len_L (K := K) (SqL.of (x2.keep t _ tb ht))
        exact this
      refine for_range_at (n := ws.length) (H1 := H2) (by omega) (fun R k => ?_) ⟨fun i σ' H' => ∃ y4 got rest, σ' = [some (.ref b), some (.ref t), some (.ref pl), some (.ref pm), y4] ∧ Ex b H H' ∧ H' pl = some (.lst rest) ∧ H' pm = some (.lst got) ∧ (got ++ rest).Perm ws ∧ got.length = i, ⟨none, [], ws, rfl, x2, hpl2, hpm2, List.Perm.refl _, rfl⟩, ?_, ?_⟩
      · simp only [L2.start, cxOf, tRet, tAndV, tOrV, tNotV, tCB, tCons, tNil, tVar, tC, tOp, tUn, tTest, tB, tIf, tIfS, tSeq, tAsg, tAnd, tOr, tNot, gName, tNext, tCall, tChain, rI, rI0, rEq, rNe, rGcd, rU, tM1, tM0, tSl, tPart, tNoPart, gTup, gCons, gNil, gSub, tTup, tLst, tPar, L2.rI, List.map_cons, List.map_nil, List.length_cons, List.length_nil, List.cons_append, List.nil_append, List.append_nil, List.getElem?_cons_zero, List.getElem?_cons_succ, List.set_cons_zero, List.set_cons_succ, Option.some.injEq, exists_eq_left, exists_eq_left', exists_eq_right, exists_and_left, exists_and_right, List.cons.injEq, and_true, true_and, V.int.injEq, V.str.injEq, V.bl.injEq, V.ref.injEq, List.replicate, Nat.reduceAdd, Nat.reduceSub, reduceCtorEq, false_and, and_false, if_true, if_false, Bool.false_eq_true, Bool.not_true, Bool.not_false, decide_eq_true_eq, exists_false, or_false, false_or]
        exact ⟨_, lt, k⟩
      · rintro i σ' H3 hi ⟨y4, got, rest, rfl, x3, hl3, hm3, pm3, lg⟩
        have lr : got.length + rest.length = ws.length := by rw [← List.length_append]; exact pm3.length_eq
        simp only [tDrop, tBM, L2.start, cxOf, tRet, tAndV, tOrV, tNotV, tCB, tCons, tNil, tVar, tC, tOp, tUn, tTest, tB, tIf, tIfS, tSeq, tAsg, tAnd, tOr, tNot, gName, tNext, tCall, tChain, rI, rI0, rEq, rNe, rGcd, rU, tM1, tM0, tSl, tPart, tNoPart, gTup, gCons, gNil, gSub, tTup, tLst, tPar, L2.rI, List.map_cons, List.map_nil, List.length_cons, List.length_nil, List.cons_append, List.nil_append, List.append_nil, List.getElem?_cons_zero, List.getElem?_cons_succ, List.set_cons_zero, List.set_cons_succ, Option.some.injEq, exists_eq_left, exists_eq_left', exists_eq_right, exists_and_left, exists_and_right, List.cons.injEq, and_true, true_and, V.int.injEq, V.str.injEq, V.bl.injEq, V.ref.injEq, List.replicate, Nat.reduceAdd, Nat.reduceSub, reduceCtorEq, false_and, and_false, if_true, if_false, Bool.false_eq_true, Bool.not_true, Bool.not_false, decide_eq_true_eq, exists_false, or_false, false_or]
        have lrl : LenV K (.ref pl) H3 rest.length := by
          have := len_L (K := K) (SqL.of hl3)
          exact this
        refine ⟨.inl ⟨rfl, _, SqL.of hm3⟩, .inl ⟨rfl, _, SqL.of hl3⟩, _, lrl, b, _, rfl, x3.bag, by omega, by omega, fun H4 d x4 d0 d1 => ?_⟩
        obtain ⟨k, rfl⟩ := Int.eq_ofNat_of_zero_le d0
        have hk : k < rest.length := by omega
        have hl4 := x4.keep pl _ plb hl3
        have hm4 := x4.keep pm _ pmb hm3
        refine ⟨pl, _, (k : Int), k, rest[k], rfl, rfl, hl4, by omega, by omega, (ixN_seq (ixN_at (hk))).1, by rw [List.getElem?_eq_getElem hk], ?_⟩
        refine ⟨pm, _, rest[k], rfl, rfl, (upd_ne pmpl).trans hm4, by omega, ((x3.tr x4).put bag npl).put bag npm, got ++ [rest[k]], rest.eraseIdx k, ?_, ?_, ?_, by rw [List.length_append, List.length_singleton, lg]⟩
        · rw [upd_ne (Ne.symm pmpl), upd_same]
        · rw [upd_same]
        · rw [List.append_assoc]
          exact (List.Perm.append_left got (er_perm hk)).trans pm3
      · rintro σ' H3 ⟨y4, got, rest, rfl, x3, hl3, hm3, pm3, lg⟩
        have lr : got.length + rest.length = ws.length := by rw [← List.length_append]; exact pm3.length_eq
        have e : rest = [] := List.length_eq_zero_iff.mp (by omega)
        subst e
        rw [List.append_nil] at pm3
        exact hn _ _ ⟨y4, got, rfl, x3, hm3, pm3⟩
    rintro σ' H3 ⟨y4, ys, rfl, x3, h3, pm3⟩
    simp only [L2.start, cxOf, tRet, tAndV, tOrV, tNotV, tCB, tCons, tNil, tVar, tC, tOp, tUn, tTest, tB, tIf, tIfS, tSeq, tAsg, tAnd, tOr, tNot, gName, tNext, tCall, tChain, rI, rI0, rEq, rNe, rGcd, rU, tM1, tM0, tSl, tPart, tNoPart, gTup, gCons, gNil, gSub, tTup, tLst, tPar, L2.rI, List.map_cons, List.map_nil, List.length_cons, List.length_nil, List.cons_append, List.nil_append, List.append_nil, List.getElem?_cons_zero, List.getElem?_cons_succ, List.set_cons_zero, List.set_cons_succ, Option.some.injEq, exists_eq_left, exists_eq_left', exists_eq_right, exists_and_left, exists_and_right, List.cons.injEq, and_true, true_and, V.int.injEq, V.str.injEq, V.bl.injEq, V.ref.injEq, List.replicate, Nat.reduceAdd, Nat.reduceSub, reduceCtorEq, false_and, and_false, if_true, if_false, Bool.false_eq_true, Bool.not_true, Bool.not_false, decide_eq_true_eq, exists_false, or_false, false_or]
    exact q H3 pm ys x3 npm h3 pm3
end
end W20

set_option Elab.async false
set_option linter.all false
set_option maxRecDepth 100000
set_option maxHeartbeats 4000000
/-! RT20: tables of nodes in the heap; _law_leaf, _law_joined -/
namespace W20
open PySem PySem.Spec PyProof.Rows L2 Lay
open SX (S S_len S_cat S_tl)
open C8 (Cal Mak Met pe_c pe_mk pe_gc fnScope_by E0)
def rLof (K : PySem.W.Frag) : List V → Hp → VK → Prop := fun xs H Q => ∃ p ys, xs = [.ref p] ∧ (SqL K H p ys ∨ SqT K H p ys) ∧ ∀ l, H l = none → Q (.ref l) (upd H l (.lst ys))
abbrev plV (ps : List Nat) : List V := ps.map fun k : Nat => V.int ((k : Nat) : Int)
def RowAt (X : Addr → Prop) (H : Hp) (r : P20.Row) (v : V) : Prop := ∃ a p, v = .ref a ∧ X a ∧ X p ∧ H a = some (.lst [.str (S r.tx), .ref p, .int r.li, .int r.ri]) ∧ H p = some (.lst (plV r.pl))
def RowsAt (X : Addr → Prop) (H : Hp) (rs : List P20.Row) (us : List V) : Prop := Paired (RowAt X H) rs us
def TabAt (X : Addr → Prop) (H : Hp) (rs : List P20.Row) (v : V) : Prop := ∃ a us, v = .ref a ∧ X a ∧ H a = some (.lst us) ∧ RowsAt X H rs us
theorem RowAt.keep {X : Addr → Prop} {H H' : Hp} {r : P20.Row} {v : V} (h : RowAt X H r v) (e : ∀ a o, X a → H a = some o → H' a = some o) : RowAt X H' r v := by
  obtain ⟨a, p, rfl, xa, xp, h1, h2⟩ := h
  exact ⟨a, p, rfl, xa, xp, e _ _ xa h1, e _ _ xp h2⟩
theorem RowsAt.keep {X : Addr → Prop} {H H' : Hp} {rs : List P20.Row} {us : List V} (h : RowsAt X H rs us) (e : ∀ a o, X a → H a = some o → H' a = some o) : RowsAt X H' rs us := L2.Paired.mapP h fun _ _ k => k.keep e
theorem TabAt.keep {X : Addr → Prop} {H H' : Hp} {rs : List P20.Row} {v : V} (h : TabAt X H rs v) (e : ∀ a o, X a → H a = some o → H' a = some o) : TabAt X H' rs v := by
  obtain ⟨a, us, rfl, xa, h1, h2⟩ := h
  exact ⟨a, us, rfl, xa, e _ _ xa h1, h2.keep e⟩
theorem RowsAt.same {X : Addr → Prop} {H H' : Hp} {rs : List P20.Row} {us : List V} (h : RowsAt X H rs us) (e : Same H H') : RowsAt X H' rs us := h.keep fun a o _ k => e a o k
theorem TabAt.same {X : Addr → Prop} {H H' : Hp} {rs : List P20.Row} {v : V} (h : TabAt X H rs v) (e : Same H H') : TabAt X H' rs v := h.keep fun a o _ k => e a o k
theorem paired_app {α β : Type} {R : α → β → Prop} {xs : List α} {ys : List β} {zs : List α} {ws : List β} (h : Paired R xs ys) (k : Paired R zs ws) : Paired R (xs ++ zs) (ys ++ ws) := by
  induction h with
  | nil => exact k
  | cons r t ih => exact .cons r ih
theorem paired_at {α β : Type} {R : α → β → Prop} : ∀ {xs : List α} {ys : List β} {i : Nat} {y : β}, Paired R xs ys → ys[i]? = some y → ∃ x, xs[i]? = some x ∧ R x y
  | _, _, _, _, .nil, h => by simp at h
  | x :: xs, y :: ys, 0, _, .cons r t, h => by
    cases h
    exact ⟨x, rfl, r⟩
  | x :: xs, y :: ys, i + 1, _, .cons r t, h => paired_at (i := i) t h
theorem paired_at' {α β : Type} {R : α → β → Prop} : ∀ {xs : List α} {ys : List β} {i : Nat} {x : α}, Paired R xs ys → xs[i]? = some x → ∃ y, ys[i]? = some y ∧ R x y
  | _, _, _, _, .nil, h => by simp at h
  | x :: xs, y :: ys, 0, _, .cons r t, h => by
    cases h
    exact ⟨y, rfl, r⟩
  | x :: xs, y :: ys, i + 1, _, .cons r t, h => paired_at' (i := i) t h
theorem RowAt.go {X : Addr → Prop} {b : Addr} {H H' : Hp} {r : P20.Row} {v : V} (h : RowAt X H r v) (g : Bag H b) (k : ∀ a o, a ≠ b → H a = some o → H' a = some o) : RowAt X H' r v := by
  obtain ⟨a, p, rfl, xa, xp, h1, h2⟩ := h
  obtain ⟨l, ns, pos, big, mixed, cnt, left, hb, _⟩ := g
  refine ⟨a, p, rfl, xa, xp, k _ _ (fun z => ?_) h1, k _ _ (fun z => ?_) h2⟩
  · rw [z, hb] at h1
    cases h1
  · rw [z, hb] at h2
    cases e : r.pl with
    | nil => rw [e] at h2; cases h2
    | cons x y => rw [e] at h2; cases h2
theorem rows_go {X : Addr → Prop} {b : Addr} {H H' : Hp} {rs : List P20.Row} {us : List V} (h : RowsAt X H rs us) (g : Bag H b) (k : ∀ a o, a ≠ b → H a = some o → H' a = some o) : RowsAt X H' rs us := L2.Paired.mapP h fun _ _ z => z.go g k
theorem TabAt.ne {X : Addr → Prop} {b a : Addr} {H : Hp} {rs : List P20.Row} {us : List V} (h1 : H a = some (.lst us)) (h2 : RowsAt X H rs us) (g : Bag H b) : a ≠ b := by
  obtain ⟨l, ns, pos, big, mixed, cnt, left, hb, _⟩ := g
  intro z
  rw [z, hb] at h1
  cases h1
  obtain ⟨r, _, c, p, e, _⟩ := paired_at (i := 1) h2 rfl
  cases e
theorem TabAt.go {X : Addr → Prop} {b : Addr} {H H' : Hp} {rs : List P20.Row} {v : V} (h : TabAt X H rs v) (g : Bag H b) (k : ∀ a o, a ≠ b → H a = some o → H' a = some o) : TabAt X H' rs v := by
  obtain ⟨a, us, rfl, xa, h1, h2⟩ := h
  exact ⟨a, us, rfl, xa, k _ _ (TabAt.ne h1 h2 g) h1, rows_go h2 g k⟩
/-- a land: for each word a list that begins with it -/
def WordAt (H : Hp) (w : P20.Wd) (v : V) : Prop := ∃ c r, v = .ref c ∧ H c = some (.lst (.str (S w) :: r))
def LandAt (H : Hp) (a : Addr) (ws : List P20.Wd) : Prop := ∃ us, H a = some (.lst us) ∧ Paired (WordAt H) ws us
theorem LandAt.same {H H' : Hp} {a : Addr} {ws : List P20.Wd} (h : LandAt H a ws) (e : Same H H') : LandAt H' a ws := by
  obtain ⟨us, h1, h2⟩ := h
  exact ⟨us, e _ _ h1, L2.Paired.mapP h2 fun w v ⟨c, r, e1, e2⟩ => ⟨c, r, e1, e _ _ e2⟩⟩
theorem LandAt.go {b a : Addr} {H H' : Hp} {ws : List P20.Wd} (h : LandAt H a ws) (g : Bag H b) (k : ∀ a o, a ≠ b → H a = some o → H' a = some o) : LandAt H' a ws := by
  obtain ⟨us, h1, h2⟩ := h
  obtain ⟨l, ns, pos, big, mixed, cnt, left, hb, _⟩ := g
  refine ⟨us, k _ _ (fun z => ?_) h1, L2.Paired.mapP h2 fun w v ⟨c, r, e1, e2⟩ => ⟨c, r, e1, k _ _ (fun z => ?_) e2⟩⟩
  · rw [z, hb] at h1
    cases h1
    obtain ⟨r, _, c, p, e, _⟩ := paired_at (i := 1) h2 rfl
    cases e
  · rw [z, hb] at e2
    cases e2
section
variable {P : Program} {w : World} {K : PySem.W.Frag} {mg : Str → Option Value} {base : Heap} {f : Addr} {fd : FuncData}
theorem land_ix {H : Hp} {a : Addr} {ws : List P20.Wd} {p : Nat} {u : P20.Wd} {R : VK} (h : LandAt H a ws) (e : ws[p]? = some u) (k : R (.str (S u)) H) : rIxL K (.ref a) (.int (p : Int)) H fun x H1 => rIxL K x (.int 0) H1 R := by
  obtain ⟨us, h1, h2⟩ := h
  obtain ⟨v, hv, c, r, rfl, hc⟩ := paired_at' h2 e
  exact ixL (SqL.of h1) p hv (ixL (SqL.of hc) 0 rfl k)
theorem sd48 : FnScope ["land", "place"] ["land", "place"] (defScope (top 48)) := fnScope_by (by decide +kernel)
def spLeaf : Sp := fun vs H Q _ => ∃ (X : Addr → Prop) (a : Addr) (ws : List P20.Wd) (p : Nat) (u : P20.Wd), vs = [.ref a, .int ((p : Nat) : Int)] ∧ (∀ c, H c = none → X c) ∧ LandAt H a ws ∧ ws[p]? = some u ∧ ∀ H' v, Same H H' → TabAt X H' (P20.rows (.leaf u p)) v → Q v H'
theorem ok_leaf (m : Mg K mg) (F : Fn K "_law_leaf" 48 f fd) (g : mg "_law_leaf" = some (.ref f)) : Cal P w K mg base 1 "_law_leaf" spLeaf [] := by
  have sc := sd48
  refine calD F g sc (fun _ _ _ _ _ _ us hl => match us, hl with | [_, _], _ => rfl) ?_ fun cdv A outer s H vs Q E hr h => ?_
  · rintro vs H Q E ⟨X, a, ws, p, u, rfl, _⟩
    rfl
  · obtain ⟨X, a, ws, p, u, rfl, fX, ld, e, q⟩ := h
    refine ⟨_, (pss_one (ps_ret (pe_lst (pa_cons (pe_lst (pa_cons (pe_ix ix_list (pe_ix ix_list (pv 0) (pv 1) (fun _ _ => rfl)) pe_int (fun _ _ => rfl)) (pa_cons (pe_lst (pa_cons (pv 1) pa_nil)) (pa_cons (pe_un un_neg pe_int) (pa_cons (pe_un un_neg pe_int) pa_nil))))) pa_nil)))), ?_⟩
    simp only [L2.start, cxOf, tRet, tAndV, tOrV, tNotV, tCB, tCons, tNil, tVar, tC, tOp, tUn, tTest, tB, tIf, tIfS, tSeq, tAsg, tAnd, tOr, tNot, gName, tNext, tCall, tChain, rI, rI0, rEq, rNe, rGcd, rU, tM1, tM0, tSl, tPart, tNoPart, gTup, gCons, gNil, gSub, tTup, tLst, tPar, L2.rI, List.map_cons, List.map_nil, List.length_cons, List.length_nil, List.cons_append, List.nil_append, List.append_nil, List.getElem?_cons_zero, List.getElem?_cons_succ, List.set_cons_zero, List.set_cons_succ, Option.some.injEq, exists_eq_left, exists_eq_left', exists_eq_right, exists_and_left, exists_and_right, List.cons.injEq, and_true, true_and, V.int.injEq, V.str.injEq, V.bl.injEq, V.ref.injEq, List.replicate, Nat.reduceAdd, Nat.reduceSub, reduceCtorEq, false_and, and_false, if_true, if_false, Bool.false_eq_true, Bool.not_true, Bool.not_false, decide_eq_true_eq, exists_false, or_false, false_or]
    refine land_ix ld e ⟨small (by decide), fun x hx => ⟨small (by decide), fun c hc => ⟨small (by decide), fun d hd => ?_⟩⟩⟩
    have s1 := same_new (o := .lst [V.int (p : Int)]) hx
    have s2 := same_new (o := .lst [V.str (S u), V.ref x, V.int (-1), V.int (-1)]) hc
    have s3 := same_new (o := .lst [V.ref c]) hd
    exact q _ _ (s1.trans (s2.trans s3)) ⟨d, _, rfl, fX _ ((s1.trans s2).free hd), upd_same, .cons ⟨c, x, rfl, fX _ (s1.free hc), fX _ hx, s3 _ _ upd_same, s3 _ _ (s2 _ _ upd_same)⟩ .nil⟩
theorem sd49 : FnScope ["left", "right", "shift", "moved", "one", "text"] ["left", "right"] (defScope (top 49)) := fnScope_by (by decide +kernel)
def spJoin : Sp := fun vs H Q _ => ∃ (X : Addr → Prop) (v u : V) (ls rs : List P20.Row) (a b : P20.Row), vs = [v, u] ∧ (∀ c, H c = none → X c) ∧ TabAt X H ls v ∧ TabAt X H rs u ∧ ls.getLast? = some a ∧ rs.getLast? = some b ∧ ls.length ≤ 1000 ∧ rs.length ≤ 1000 ∧ a.tx.length ≤ 100000 ∧ b.tx.length ≤ 100000 ∧ a.pl.length ≤ 1000 ∧ b.pl.length ≤ 1000 ∧ ∀ H' z, Same H H' → TabAt X H' (P20.jn ls rs a b) z → Q z H'
theorem ok_join (m : Mg K mg) (F : Fn K "_law_joined" 49 f fd) (g : mg "_law_joined" = some (.ref f)) : Cal P w K mg base 1 "_law_joined" spJoin [] := by
  have sc := sd49
  refine calD F g sc (fun _ _ _ _ _ _ us hl => match us, hl with | [_, _], _ => rfl) ?_ fun cdv A outer s H vs Q E hr h => ?_
  · rintro vs H Q E ⟨X, v, u, ls, rs, a, b, rfl, _⟩
    rfl
  · obtain ⟨X, v, u, ls, rs, ra, rb, rfl, fX, ⟨la, us, rfl, xla, hla, hls⟩, ⟨lb, ws, rfl, xlb, hlb, hrs⟩, e1, e2, n1, n2, t1, t2, p1, p2, q⟩ := h
    refine ⟨_, (pss_cons (ps_set (i := 2) sc.nd rfl (.inr rfl) (pe_callB call_len (by rfl) m.len_ boot_len (pa_cons (pv 0) pa_nil)))
      (pss_cons (ps_setLc (i := 3) (own := [("one", 4)]) (g := gName 4) (by rfl) sc.nd rfl rfl (sw_true rfl rfl rfl (by decide +kernel)) (pi_list (pv 1)) (blkOk_by (own := [("one", 4)]) (N := ["left", "right", "shift", "moved", "one", "text"]) (sc := defScope (top 49)) (by decide +kernel)) (fun _ _ _ _ _ => pg_name (i := 4) sc.nd rfl (.inl rfl)) (fun _ _ _ _ _ => pts_nil) (fun _ _ _ _ _ => pe_ifExp (pt_cmpR op_ge (pe_ix (show IxR _ (rIxL K) from ix_list) (pv 4) pe_int (fun _ _ => rfl)) pe_int (nomark _)) (pe_lst (pa_cons (pe_ix (show IxR _ (rIxL K) from ix_list) (pv 4) pe_int (fun _ _ => rfl)) (pa_cons (pe_ix (show IxR _ (rIxL K) from ix_list) (pv 4) pe_int (fun _ _ => rfl)) (pa_cons (pe_op op_add (pe_ix (show IxR _ (rIxL K) from ix_list) (pv 4) pe_int (fun _ _ => rfl)) (pv 2)) (pa_cons (pe_op op_add (pe_ix (show IxR _ (rIxL K) from ix_list) (pv 4) pe_int (fun _ _ => rfl)) (pv 2)) pa_nil))))) (pe_callTy (show CallR _ (.type "list") (rLof K) from call_list_of) (by rfl) m.list_ boot_list (pa_cons (pv 4) pa_nil))))
      (pss_cons (ps_set (i := 5) sc.nd rfl (.inl rfl) (pe_op op_add_str (pe_op op_add_str (pe_op op_add_str (pe_op op_add_str pe_str (pe_ix ix_list (pe_ix ix_list (pv 0) (pe_un un_neg pe_int) (fun _ _ => rfl)) pe_int (fun _ _ => rfl))) pe_str) (pe_ix ix_list (pe_ix ix_list (pv 1) (pe_un un_neg pe_int) (fun _ _ => rfl)) pe_int (fun _ _ => rfl))) pe_str))
      (pss_one (ps_ret (pe_op op_cat (pe_op op_cat (pv 0) (pv 3)) (pe_lst (pa_cons (pe_lst (pa_cons (pv 5) (pa_cons (pe_op op_cat (pe_ix ix_list (pe_ix ix_list (pv 0) (pe_un un_neg pe_int) (fun _ _ => rfl)) pe_int (fun _ _ => rfl)) (pe_ix ix_list (pe_ix ix_list (pv 1) (pe_un un_neg pe_int) (fun _ _ => rfl)) pe_int (fun _ _ => rfl))) (pa_cons (pe_op op_sub (pv 2) pe_int) (pa_cons (pe_op op_sub (pe_op op_add (pv 2) (pe_callB call_len (by rfl) m.len_ boot_len (pa_cons (pv 1) pa_nil))) pe_int) pa_nil))))) pa_nil)))))))), ?_⟩
    have szl := sizeLine_eq
    simp only [L2.start, cxOf, tRet, tAndV, tOrV, tNotV, tCB, tCons, tNil, tVar, tC, tOp, tUn, tTest, tB, tIf, tIfS, tSeq, tAsg, tAnd, tOr, tNot, gName, tNext, tCall, tChain, rI, rI0, rEq, rNe, rGcd, rU, tM1, tM0, tSl, tPart, tNoPart, gTup, gCons, gNil, gSub, tTup, tLst, tPar, L2.rI, List.map_cons, List.map_nil, List.length_cons, List.length_nil, List.cons_append, List.nil_append, List.append_nil, List.getElem?_cons_zero, List.getElem?_cons_succ, List.set_cons_zero, List.set_cons_succ, Option.some.injEq, exists_eq_left, exists_eq_left', exists_eq_right, exists_and_left, exists_and_right, List.cons.injEq, and_true, true_and, V.int.injEq, V.str.injEq, V.bl.injEq, V.ref.injEq, List.replicate, Nat.reduceAdd, Nat.reduceSub, reduceCtorEq, false_and, and_false, if_true, if_false, Bool.false_eq_true, Bool.not_true, Bool.not_false, decide_eq_true_eq, exists_false, or_false, false_or]
    have lus : ls.length = us.length := hls.length
    have lws : rs.length = ws.length := hrs.length
    refine ⟨_, len_L (SqL.of hla), ?_⟩
    refine Lay.lc_list (K := K) (v := 4) (l := lb) (xs := ws) (fun R h => ⟨_, rfl, h⟩) (SqL.of hlb) (fun x => rfl) fun D hD => ⟨fun i H' => Same H H' ∧ ∃ ms, H' D = some (.lst ms) ∧ ms.length ≤ i ∧ ∀ H'', (∀ a o, a ≠ D → H' a = some o → H'' a = some o) → RowsAt X H'' ((rs.take i).map (P20.Row.shift (us.length : Int))) ms,
      ⟨same_new hD, [], upd_same, Nat.le_refl _, fun _ _ => .nil⟩, fun i H' hi h => SqL.of (h.1 _ _ hlb), fun i z H' hz ⟨sH, ms, hDD, lm, al⟩ => ?_, fun H' ⟨sH, ms, hDD, lm, al⟩ => ?_⟩
    · obtain ⟨r, hr0, c, p, rfl, xc, xp, hc, hp⟩ := paired_at hrs hz
      have li : i < rs.length := (List.getElem?_eq_some_iff.mp hr0).1
      have tk : rs.take (i + 1) = rs.take i ++ [r] := by rw [List.take_succ, hr0]; rfl
      have hc' := sH _ _ hc
      have hp' := sH _ _ hp
      unfold tYes
      dsimp only
      rw [if_pos rfl]
      simp only [L2.start, cxOf, tRet, tAndV, tOrV, tNotV, tCB, tCons, tNil, tVar, tC, tOp, tUn, tTest, tB, tIf, tIfS, tSeq, tAsg, tAnd, tOr, tNot, gName, tNext, tCall, tChain, rI, rI0, rEq, rNe, rGcd, rU, tM1, tM0, tSl, tPart, tNoPart, gTup, gCons, gNil, gSub, tTup, tLst, tPar, L2.rI, List.map_cons, List.map_nil, List.length_cons, List.length_nil, List.cons_append, List.nil_append, List.append_nil, List.getElem?_cons_zero, List.getElem?_cons_succ, List.set_cons_zero, List.set_cons_succ, Option.some.injEq, exists_eq_left, exists_eq_left', exists_eq_right, exists_and_left, exists_and_right, List.cons.injEq, and_true, true_and, V.int.injEq, V.str.injEq, V.bl.injEq, V.ref.injEq, List.replicate, Nat.reduceAdd, Nat.reduceSub, reduceCtorEq, false_and, and_false, if_true, if_false, Bool.false_eq_true, Bool.not_true, Bool.not_false, decide_eq_true_eq, exists_false, or_false, false_or]
      -- one row is made
      have fin : ∀ (its : List V) (e : P20.Row) (H3 : Hp), (∀ b o, b ≠ D → H' b = some o → H3 b = some o) → H3 D = some (.lst ms) → e = r.shift (us.length : Int) → its = [.str (S e.tx), .ref p, .int e.li, .int e.ri] → e.pl = r.pl → ∀ cc, H3 cc = none →
          ∃ acc, (upd H3 cc (.lst its)) D = some (.lst acc) ∧ acc.length < sizeLine ∧ Same H (upd (upd H3 cc (.lst its)) D (.lst (acc ++ [V.ref cc]))) ∧ ∃ ms', (upd (upd H3 cc (.lst its)) D (.lst (acc ++ [V.ref cc]))) D = some (.lst ms') ∧ ms'.length ≤ i + 1 ∧
            ∀ H'', (∀ a o, a ≠ D → (upd (upd H3 cc (.lst its)) D (.lst (acc ++ [V.ref cc]))) a = some o → H'' a = some o) → RowsAt X H'' ((rs.take (i + 1)).map (P20.Row.shift (us.length : Int))) ms' := fun its e H3 k3 hD3 ee ei ep cc hcc => by
        have ncD : cc ≠ D := fun z => by rw [z, hD3] at hcc; cases hcc
        refine ⟨ms, by rw [upd_ne (Ne.symm ncD)]; exact hD3, by omega, fun b o hb => ?_, ms ++ [.ref cc], upd_same, by rw [List.length_append]; simp; omega, fun H'' k => ?_⟩
        · have nb : b ≠ D := ne_of_none hb hD
          rw [upd_ne nb]
          exact same_new hcc _ _ (k3 _ _ nb (sH _ _ hb))
        · rw [tk, List.map_append]
          refine paired_app (al H'' fun a o na ha => k a o na ?_) (.cons ⟨cc, p, rfl, fX _ (by
            cases e : H cc with
            | none => rfl
            | some o => exact absurd (k3 _ _ (ne_of_none e hD) (sH _ _ e)) (by rw [hcc]; exact fun z => nomatch z)), xp, k cc _ ncD ?_, k p _ (ne_of_none hp hD) ?_⟩ .nil)
          · rw [upd_ne na]
            exact same_new hcc _ _ (k3 _ _ na ha)
          · rw [upd_ne ncD, upd_same, ei, ee]
          · rw [upd_ne (ne_of_none hp hD), ← ee, ep]
            exact same_new hcc _ _ (k3 _ _ (ne_of_none hp hD) hp')
      have w4 : ∀ {R : VK} {H3 : Hp} (j : Nat) (v : V), Same H' H3 → ([V.str (S r.tx), V.ref p, V.int r.li, V.int r.ri] : List V)[j]? = some v → R v H3 → rIxL K (.ref c) (.int (j : Int)) H3 R := fun j v s e k => ixL (SqL.of (s _ _ hc')) j e k
      refine ⟨_, rfl, w4 2 _ (Same.refl _) rfl ⟨_, rfl, ?_⟩⟩
      by_cases c0 : 0 ≤ r.li
      · rw [if_pos c0]
        refine ⟨_, rfl, w4 0 _ (Same.refl _) rfl ⟨_, rfl, w4 1 _ (Same.refl _) rfl ⟨_, rfl, w4 2 _ (Same.refl _) rfl ?_⟩⟩⟩
        refine ⟨_, rfl, _, rfl, _, rfl, _, rfl, w4 3 _ (Same.refl _) rfl ⟨_, rfl, _, rfl, _, rfl, small (by decide), fun cc hcc => ?_⟩⟩
        exact fin _ (r.shift (us.length : Int)) H' (fun _ _ _ e => e) hDD rfl (by unfold P20.Row.shift; rw [if_pos c0]) (by unfold P20.Row.shift; rw [if_pos c0]) cc hcc
      · rw [if_neg c0]
        refine ⟨_, rfl, c, _, rfl, .inl (SqL.of hc'), fun cc hcc => ?_⟩
        exact fin _ (r.shift (us.length : Int)) H' (fun _ _ _ e => e) hDD rfl (by unfold P20.Row.shift; rw [if_neg c0]) (by unfold P20.Row.shift; rw [if_neg c0]) cc hcc
    · rw [← lws, List.take_length, ← lus] at al
      have rms := al H' fun _ _ _ e => e
      have e40 : Str.ofString "(" = S [40] := by decide +kernel
      have e41 : Str.ofString ")" = S [41] := by decide +kernel
      have e32 : Str.ofString " " = S [32] := by decide +kernel
      have lms : ms.length = rs.length := by rw [← rms.length, List.length_map]
      obtain ⟨va, hva, ca, pa, rfl, xca, xpa, hca, hpa⟩ : ∃ va, us.getLast? = some va ∧ RowAt X H ra va := by
        rw [List.getLast?_eq_getElem?] at e1 ⊢
        rw [← lus]
        exact paired_at' hls e1
      obtain ⟨vb, hvb, cb, pb, rfl, xcb, xpb, hcb, hpb⟩ : ∃ vb, ws.getLast? = some vb ∧ RowAt X H rb vb := by
        rw [List.getLast?_eq_getElem?] at e2 ⊢
        rw [← lws]
        exact paired_at' hrs e2
      have lastA : ∀ {R : VK} {H3 : Hp}, Same H' H3 → R (.ref ca) H3 → rIxL K (.ref la) (.int (-1)) H3 R := fun s k => ⟨la, us, -1, _, rfl, rfl, SqL.of (s _ _ (sH _ _ hla)), at_last hva, k⟩
      have lastB : ∀ {R : VK} {H3 : Hp}, Same H' H3 → R (.ref cb) H3 → rIxL K (.ref lb) (.int (-1)) H3 R := fun s k => ⟨lb, ws, -1, _, rfl, rfl, SqL.of (s _ _ (sH _ _ hlb)), at_last hvb, k⟩
      have fa : ∀ {R : VK} {H3 : Hp} (j : Nat) (v : V), Same H' H3 → ([V.str (S ra.tx), V.ref pa, V.int ra.li, V.int ra.ri] : List V)[j]? = some v → R v H3 → rIxL K (.ref ca) (.int (j : Int)) H3 R := fun j v s e k => ixL (SqL.of (s _ _ (sH _ _ hca))) j e k
      have fb : ∀ {R : VK} {H3 : Hp} (j : Nat) (v : V), Same H' H3 → ([V.str (S rb.tx), V.ref pb, V.int rb.li, V.int rb.ri] : List V)[j]? = some v → R v H3 → rIxL K (.ref cb) (.int (j : Int)) H3 R := fun j v s e k => ixL (SqL.of (s _ _ (sH _ _ hcb))) j e k
      simp only [e40, e41, e32]
      refine lastA (Same.refl _) (fa 0 _ (Same.refl _) rfl ⟨_, rfl, by rw [S_len, S_len, szl]; simp; omega, by rw [S_cat, S_len, S_len, szl]; simp; omega, ?_⟩)
      refine lastB (Same.refl _) (fb 0 _ (Same.refl _) rfl ⟨_, rfl, by rw [S_cat, S_cat, S_len, S_len, szl]; simp; omega, by rw [S_cat, S_cat, S_cat, S_len, S_len, szl]; simp; omega, ?_⟩)
      have et : S [40] ++ S ra.tx ++ S [32] ++ S rb.tx ++ S [41] = S (40 :: (ra.tx ++ 32 :: (rb.tx ++ [41]))) := by
        rw [S_cat, S_cat, S_cat, S_cat]
        simp
      rw [et]
      refine ⟨la, D, _, _, rfl, rfl, sH _ _ hla, hDD, by omega, fun e1' he1 => ?_⟩
      have s1 := same_new (o := .lst (us ++ ms)) he1
      refine lastA s1 (fa 1 _ s1 rfl (lastB s1 (fb 1 _ s1 rfl ⟨pa, pb, _, _, rfl, rfl, s1 _ _ (sH _ _ hpa), s1 _ _ (sH _ _ hpb), by rw [List.length_map, List.length_map]; omega, fun pp hpp => ?_⟩)))
      have ep : plV ra.pl ++ plV rb.pl = plV (ra.pl ++ rb.pl) := List.map_append.symm
      rw [ep]
      have s2 := same_new (o := .lst (plV (ra.pl ++ rb.pl))) hpp
      have s12 := s1.trans s2
      refine ⟨_, len_L (SqL.of (s12 _ _ (sH _ _ hlb))), small (by decide), fun cc hcc => ⟨small (by decide), fun dd hdd => ?_⟩⟩
      have s3 := same_new (o := .lst [V.str (S (40 :: (ra.tx ++ 32 :: (rb.tx ++ [41])))), V.ref pp, V.int ((us.length : Int) - 1), V.int ((us.length : Int) + (ws.length : Int) - 1)]) hcc
      have s4 := same_new (o := .lst [V.ref cc]) hdd
      refine ⟨e1', dd, _, _, rfl, rfl, s4 _ _ (s3 _ _ (s2 _ _ upd_same)), upd_same, by rw [List.length_append]; simp; omega, fun zz hzz => ?_⟩
      have s5 := same_new (o := .lst (us ++ ms ++ [V.ref cc])) hzz
      have s25 : Same H' _ := s12.trans (s3.trans (s4.trans s5))
      refine q _ _ (Same.trans sH s25) ⟨zz, _, rfl, fX _ (Same.free sH ((s12.trans (s3.trans s4)).free hzz)), upd_same, ?_⟩
      unfold P20.jn
      refine paired_app (paired_app ((hls.same sH).same s25) (RowsAt.same rms s25)) (.cons ⟨cc, pp, rfl, fX _ (Same.free sH (s12.free hcc)), fX _ (Same.free sH (s1.free hpp)), ?_, ?_⟩ .nil)
      · rw [s5 _ _ (s4 _ _ upd_same), lus, lws]
      · exact s5 _ _ (s4 _ _ (s3 _ _ upd_same))
end
end W20

set_option Elab.async false
set_option linter.all false
set_option maxRecDepth 100000
set_option maxHeartbeats 4000000
/-! RL20: _law_cut, _law_absent, _law_named, _law_bare_land, _law_lot_words -/
namespace P20
theorem Lab.mem {ws : List Wd} : ∀ {t : PT}, Lab ws t → ∀ u ∈ leaves t.er, u ∈ ws
  | .leaf w p, h, u, hu => by
    rw [List.mem_singleton.mp hu]
    exact List.mem_of_getElem? (show ws[p]? = some w from h)
  | .node l r, h, u, hu => by
    rcases List.mem_append.mp hu with z | z
    · exact h.1.mem u z
    · exact h.2.mem u z
theorem rows_few (t : PT) : (rows t).length + 1 = 2 * t.pl.length := by
  rw [rows_len, subs_len, ← leaves_pl]
  exact nodes_len _
theorem pl_pos (t : PT) : 0 < t.pl.length := by
  rw [← leaves_pl]
  exact List.length_pos_iff.mpr (leaves_pos _)
end P20
namespace W20
open PySem PySem.Spec PyProof.Rows L2 Lay
open SX (S S_len S_cat S_tl)
open C8 (Cal Mak Met pe_c pe_mk pe_gc fnScope_by E0 sl_txt rSlX)
theorem lc_strl {te0 : TE} {tt : L2.TT} {te : TE} {v : Nat} {σ : L2.St} {H : Hp} {Q : VK} {a : List Nat} (h : ∀ R : VK, R (.str (S a)) H → te0 σ H R)
    (hw : ∀ x, wipe ((wipe σ [v]).set v (some x)) [v] = wipe σ [v])
    (k : ∀ D, H D = none → ∃ Pv : Nat → Hp → Prop, Pv 0 (upd H D (.lst [])) ∧
      (∀ i c H', a[i]? = some c → Pv i H' → tt ((wipe σ [v]).set v (some (.str (S [c])))) H' fun b H3 => if b = true then te ((wipe σ [v]).set v (some (.str (S [c])))) H3 fun y H4 => ∃ acc, H4 D = some (.lst acc) ∧ acc.length < sizeLine ∧ Pv (i + 1) (upd H4 D (.lst (acc ++ [y]))) else Pv (i + 1) H3) ∧
      ∀ H', Pv a.length H' → Q (.ref D) H') :
    tLc (iStr te0) (gName v) tt te [v] σ H Q := by
  refine h _ ⟨S a, rfl, fun D hD => ?_⟩
  obtain ⟨Pv, h0, hs, hd⟩ := k D hD
  refine lc_it walk_str Pv h0 (fun _ _ _ _ => trivial) ?_ ?_
  · rintro i x H' H2 hi hP ⟨rfl, c, hc, rfl⟩
    exact ⟨hw _, hs i c _ (by simpa using hc) hP⟩
  · intro H' hP
    exact hd H' (by simpa using hP)
theorem rin_wordsF {K : PySem.W.Frag} {H : Hp} {t : Addr} {u : List Nat} {ws : List P20.Wd} {R : VK} (h : H t = some (wordsV ws)) (k : R (.bl (decide (u ∈ ws))) H) : rIn K false (.str (S u)) (.ref t) H R := by
  refine ⟨t, _, rfl, .inl (SqL.of h), rfl, ?_, ?_⟩
  · rw [List.all_eq_true]
    intro v hv
    obtain ⟨w, _, rfl⟩ := List.mem_map.mp hv
    rfl
  · rw [if_neg (by decide), inV_words]
    exact k
section
variable {P : Program} {w : World} {K : PySem.W.Frag} {mg : Str → Option Value} {base : Heap} {f : Addr} {fd : FuncData}
theorem sd50 : FnScope ["bag", "land", "places", "at"] ["bag", "land", "places"] (defScope (top 50)) := fnScope_by (by decide +kernel)
def spCut (n : Nat) : Sp := fun vs H Q _ => ∃ (b a l : Addr) (ws : List P20.Wd) (ps : List Nat), vs = [.ref b, .ref a, .ref l] ∧ Bag H b ∧ LandAt H a ws ∧ H l = some (.lst (plV ps)) ∧ l ≠ b ∧ 0 < ps.length ∧ ps.length ≤ n ∧ ps.length ≤ 100 ∧ (∀ p ∈ ps, p < ws.length) ∧ (∀ u ∈ ws, u.length ≤ 8) ∧
  ∀ H' v t, Ex b H H' → t.pl = ps → P20.Lab ws t → TabAt (fun _ => True) H' (P20.rows t) v → Q v H'
theorem ok_cut_step (m : Mg K mg) (c__law_draw : Cal P w K mg base 1 "_law_draw" spDraw []) (c__law_leaf : Cal P w K mg base 1 "_law_leaf" spLeaf []) (c__law_joined : Cal P w K mg base 1 "_law_joined" spJoin []) (F : Fn K "_law_cut" 50 f fd) (g : mg "_law_cut" = some (.ref f)) (n : Nat) (c__law_cut : Cal P w K mg base (n + 2) "_law_cut" (spCut n) []) : Cal P w K mg base (n + 3) "_law_cut" (spCut (n + 1)) [] := by
  have sc := sd50
  refine calD F g sc (fun _ _ _ _ _ _ us hl => match us, hl with | [_, _, _], _ => rfl) ?_ fun cdv A outer s H vs Q E hr h => ?_
  · rintro vs H Q E ⟨b, a, l, ws, ps, rfl, _⟩
    rfl
  · obtain ⟨b, a, l, ws, ps, rfl, bag, ld, hl, nb, p1, p2, p3, inW, w8, q⟩ := h
    refine ⟨_, (pss_cons (ps_if (pt_cmpR op_eq (pe_callB call_len (by rfl) m.len_ boot_len (pa_cons (pv 2) pa_nil)) pe_int (nomark _))
        (pss_one (ps_ret (pe_c c__law_leaf hr (by omega) (by rfl) (pa_cons (pv 1) (pa_cons (pe_ix ix_list (pv 2) pe_int (fun _ _ => rfl)) pa_nil)))))
        pss_nil)
      (pss_cons (ps_set (i := 3) sc.nd rfl (.inl rfl) (pe_op op_add pe_int (pe_c c__law_draw hr (by omega) (by rfl) (pa_cons (pv 0) (pa_cons (pe_op op_sub (pe_callB call_len (by rfl) m.len_ boot_len (pa_cons (pv 2) pa_nil)) pe_int) pa_nil)))))
      (pss_one (ps_ret (pe_c c__law_joined hr (by omega) (by rfl) (pa_cons (pe_c c__law_cut hr (by omega) (by rfl) (pa_cons (pv 0) (pa_cons (pv 1) (pa_cons (pe_slice sl_list (pv 2) po_none (po_some (pv 3))) pa_nil)))) (pa_cons (pe_c c__law_cut hr (by omega) (by rfl) (pa_cons (pv 0) (pa_cons (pv 1) (pa_cons (pe_slice sl_list (pv 2) (po_some (pv 3)) po_none) pa_nil)))) pa_nil))))))), ?_⟩
    simp only [L2.start, cxOf, tRet, tAndV, tOrV, tNotV, tCB, tCons, tNil, tVar, tC, tOp, tUn, tTest, tB, tIf, tIfS, tSeq, tAsg, tAnd, tOr, tNot, gName, tNext, tCall, tChain, rI, rI0, rEq, rNe, rGcd, rU, tM1, tM0, tSl, tPart, tNoPart, gTup, gCons, gNil, gSub, tTup, tLst, tPar, L2.rI, List.map_cons, List.map_nil, List.length_cons, List.length_nil, List.cons_append, List.nil_append, List.append_nil, List.getElem?_cons_zero, List.getElem?_cons_succ, List.set_cons_zero, List.set_cons_succ, Option.some.injEq, exists_eq_left, exists_eq_left', exists_eq_right, exists_and_left, exists_and_right, List.cons.injEq, and_true, true_and, V.int.injEq, V.str.injEq, V.bl.injEq, V.ref.injEq, List.replicate, Nat.reduceAdd, Nat.reduceSub, reduceCtorEq, false_and, and_false, if_true, if_false, Bool.false_eq_true, Bool.not_true, Bool.not_false, decide_eq_true_eq, exists_false, or_false, false_or]
    have lenW : (plV ps).length = ps.length := List.length_map ..
    have len : LenV K (V.ref l) H ps.length := by rw [← lenW]; exact len_L (SqL.of hl)
    refine ⟨_, len, rfl, ?_⟩
    by_cases one : ps.length = 1
    · rw [if_pos (by omega)]
      obtain ⟨u, rfl⟩ : ∃ u, ps = [u] := List.length_eq_one_iff.mp one
      have hu : ws[u]? = some (ws[u]'(inW u (List.mem_singleton.mpr rfl))) := List.getElem?_eq_getElem _
      exact ixL (SqL.of hl) 0 rfl ⟨fun _ => True, a, ws, u, _, rfl, fun _ _ => trivial, ld, hu, fun H' v s t => q H' v (.leaf _ u) ((Ex.rf bag).sm s) rfl hu t⟩
    · rw [if_neg (by omega)]
      refine ⟨_, len, b, _, rfl, bag, by omega, by omega, fun H1 d x1 h0 hlt => ?_⟩
      obtain ⟨k, rfl⟩ := Int.eq_ofNat_of_zero_le h0
      have hk : k + 1 < ps.length := by omega
      have ek : (1 : Int) + (k : Int) = ((k + 1 : Nat) : Int) := by omega
      refine ⟨_, rfl, ?_⟩
      rw [ek]
      have hl1 := x1.keep _ _ nb hl
      have ld1 := ld.go bag x1.keep
      refine ⟨l, _, rfl, SqL.of hl1, fun p hp => ?_⟩
      rw [cut_to (by omega)]
      obtain ⟨np, bag2⟩ := bag_new (o := .lst (plV (ps.take (k + 1)))) x1.bag hp
      have l1 : (ps.take (k + 1)).length = k + 1 := by rw [List.length_take]; omega
      refine ⟨b, a, p, ws, _, rfl, bag2, ld1.same (same_new hp), upd_same, np, by omega, by omega, by omega, fun x hx => inW x (List.mem_of_mem_take hx), w8, fun H2 v1 t1 x2 e1 lb1 tr1 => ?_⟩
      have x12 := (x1.new (o := .lst (plV (ps.take (k + 1)))) hp).tr x2
      have hl2 := x12.keep _ _ nb hl
      have ld2 := ld.go bag x12.keep
      refine ⟨l, _, rfl, SqL.of hl2, fun p2 hp2 => ?_⟩
      rw [cut_from (by omega)]
      obtain ⟨np2, bag3⟩ := bag_new (o := .lst (plV (ps.drop (k + 1)))) x2.bag hp2
      have l2 : (ps.drop (k + 1)).length = ps.length - (k + 1) := List.length_drop ..
      refine ⟨b, a, p2, ws, _, rfl, bag3, ld2.same (same_new hp2), upd_same, np2, by omega, by omega, by omega, fun x hx => inW x (List.mem_of_mem_drop hx), w8, fun H3 v2 t2 x3 e2 lb2 tr2 => ?_⟩
      have tr13 : TabAt (fun _ => True) H3 (P20.rows t1) v1 := (tr1.same (same_new (o := .lst (plV (ps.drop (k + 1)))) hp2)).go bag3 x3.keep
      obtain ⟨i1, j1, ea⟩ := P20.rows_last t1
      obtain ⟨i2, j2, eb⟩ := P20.rows_last t2
      have f1 := P20.rows_few t1
      have f2 := P20.rows_few t2
      have sp1 := P20.spell_len (k := 8) (t := t1.er) fun u hu => w8 u (lb1.mem u hu)
      have sp2 := P20.spell_len (k := 8) (t := t2.er) fun u hu => w8 u (lb2.mem u hu)
      rw [P20.leaves_pl] at sp1 sp2
      rw [e1] at f1 sp1
      rw [e2] at f2 sp2
      refine ⟨fun _ => True, v1, v2, _, _, _, _, rfl, fun _ _ => trivial, tr13, tr2, ea, eb, by omega, by omega, by show (P20.spell t1.er).length ≤ _; omega, by show (P20.spell t2.er).length ≤ _; omega, by show t1.pl.length ≤ _; rw [e1]; omega, by show t2.pl.length ≤ _; rw [e2]; omega, fun H4 z s4 tz => ?_⟩
      rw [← P20.rows_node t1 t2 ea eb] at tz
      exact q _ z (.node t1 t2) (((x12.new (o := .lst (plV (ps.drop (k + 1)))) hp2).tr x3).sm s4) (by rw [P20.PT.pl, e1, e2, List.take_append_drop]) ⟨lb1, lb2⟩ tz
theorem ok_cut (m : Mg K mg) (c__law_draw : Cal P w K mg base 1 "_law_draw" spDraw []) (c__law_leaf : Cal P w K mg base 1 "_law_leaf" spLeaf []) (c__law_joined : Cal P w K mg base 1 "_law_joined" spJoin []) (F : Fn K "_law_cut" 50 f fd) (g : mg "_law_cut" = some (.ref f)) : ∀ n, Cal P w K mg base (n + 2) "_law_cut" (spCut n) []
  | 0 => by
    refine calD (k := 1) F g sd50 (fun _ _ _ _ _ _ us hl => match us, hl with | [_, _, _], _ => rfl) ?_ fun cdv A outer s H vs Q E hr h => ?_
    · rintro vs H Q E ⟨b, a, l, ws, ps, rfl, _⟩
      rfl
    · obtain ⟨b, a, l, ws, ps, rfl, _, _, _, _, p1, p2, _⟩ := h
      omega
  | n + 1 => ok_cut_step m c__law_draw c__law_leaf c__law_joined F g n (ok_cut m c__law_draw c__law_leaf c__law_joined F g n)
theorem sd51 : FnScope ["bag", "taken", "word"] ["bag", "taken"] (defScope (top 51)) := fnScope_by (by decide +kernel)
def spAbsent : Sp := fun vs H Q _ => ∃ (b t : Addr) (ws : List P20.Wd), vs = [.ref b, .ref t] ∧ Bag H b ∧ H t = some (wordsV ws) ∧ t ≠ b ∧ ∀ H' u, Ex b H H' → u.length ≤ 8 → PyData.strOk (S u) = true → Q (.str (S u)) H'
theorem ok_absent (m : Mg K mg) (c__law_name : Cal P w K mg base 3 "_law_name" spName []) (c__law_draw : Cal P w K mg base 1 "_law_draw" spDraw []) (F : Fn K "_law_absent" 51 f fd) (g : mg "_law_absent" = some (.ref f)) : Cal P w K mg base 4 "_law_absent" spAbsent [] := by
  have sc := sd51
  refine calD F g sc (fun _ _ _ _ _ _ us hl => match us, hl with | [_, _], _ => rfl) ?_ fun cdv A outer s H vs Q E hr h => ?_
  · rintro vs H Q E ⟨b, t, ws, rfl, _⟩
    rfl
  · obtain ⟨b, t, ws, rfl, bag, ht, tb, q⟩ := h
    refine ⟨_, (pss_cons (ps_set (i := 2) sc.nd rfl (.inl rfl) (pe_c c__law_name hr (by omega) (by rfl) (pa_cons (pv 0) pa_nil)))
      (pss_one (ps_ret (pe_ifExp ((pw_or (pt_cmpR op_in_seq (pv 2) (pv 1) rfl) (pw_or1 (pt_cmpR op_eq (pe_c c__law_draw hr (by omega) (by rfl) (pa_cons (pv 0) (pa_cons pe_int pa_nil))) pe_int (nomark _))))).pt pe_str (pv 2))))), ?_⟩
    simp only [L2.start, cxOf, tRet, tAndV, tOrV, tNotV, tCB, tCons, tNil, tVar, tC, tOp, tUn, tTest, tB, tIf, tIfS, tSeq, tAsg, tAnd, tOr, tNot, gName, tNext, tCall, tChain, rI, rI0, rEq, rNe, rGcd, rU, tM1, tM0, tSl, tPart, tNoPart, gTup, gCons, gNil, gSub, tTup, tLst, tPar, L2.rI, List.map_cons, List.map_nil, List.length_cons, List.length_nil, List.cons_append, List.nil_append, List.append_nil, List.getElem?_cons_zero, List.getElem?_cons_succ, List.set_cons_zero, List.set_cons_succ, Option.some.injEq, exists_eq_left, exists_eq_left', exists_eq_right, exists_and_left, exists_and_right, List.cons.injEq, and_true, true_and, V.int.injEq, V.str.injEq, V.bl.injEq, V.ref.injEq, List.replicate, Nat.reduceAdd, Nat.reduceSub, reduceCtorEq, false_and, and_false, if_true, if_false, Bool.false_eq_true, Bool.not_true, Bool.not_false, decide_eq_true_eq, exists_false, or_false, false_or]
    refine ⟨b, rfl, bag, fun H1 u x1 gu => rin_wordsF (x1.keep _ _ tb ht) ⟨_, rfl, ?_⟩⟩
    have ez : Str.ofString "Zed" = S [90, 101, 100] := by decide +kernel
    by_cases c : u ∈ ws
    · rw [if_pos (by simp [c]), ez]
      exact q _ _ x1 (by decide) (by decide +kernel)
    · rw [if_neg (by simp [c])]
      refine ⟨b, 2, rfl, x1.bag, by decide, by decide, fun H2 d x2 d0 d1 => ⟨rfl, ?_⟩⟩
      by_cases c2 : d = 0
      · rw [if_pos (by rw [c2]), ez]
        exact q _ _ (x1.tr x2) (by decide) (by decide +kernel)
      · rw [if_neg (fun z => c2 (V.int.inj z))]
        exact q _ _ (x1.tr x2) (name_len gu) (name_ok gu)
theorem sd52 : FnScope ["word", "signs", "sign"] ["word"] (defScope (top 52)) := fnScope_by (by decide +kernel)
def spNamed : Sp := fun vs H Q _ => ∃ u, vs = [.str (S u)] ∧ u.length ≤ 100000 ∧ ∀ H', Same H H' → Q (.bl (nameB u)) H'
theorem ok_named (m : Mg K mg) (c__law_barred : Cal P w K mg base 1 "_law_barred" spBarred []) (F : Fn K "_law_named" 52 f fd) (g : mg "_law_named" = some (.ref f)) : Cal P w K mg base 2 "_law_named" spNamed [] := by
  have sc := sd52
  refine calD F g sc (fun _ _ _ _ _ _ us hl => match us, hl with | [_], _ => rfl) ?_ fun cdv A outer s H vs Q E hr h => ?_
  · rintro vs H Q E ⟨u, rfl, _⟩
    rfl
  · obtain ⟨u, rfl, lu, q⟩ := h
    refine ⟨_, (pss_cons (ps_set (i := 1) sc.nd rfl (.inr rfl) pe_str)
      (pss_cons (ps_if ((pw_or (pt_cmpR op_lt (pe_callB call_len (by rfl) m.len_ boot_len (pa_cons (pv 0) pa_nil)) pe_int (nomark _)) (pw_or (pt_cmpR op_gt (pe_callB call_len (by rfl) m.len_ boot_len (pa_cons (pv 0) pa_nil)) pe_int (nomark _)) (pw_or (pt_cmpR op_in_seq (pv 0) (pe_c0 c__law_barred hr (by omega) (by rfl)) rfl) (pw_or1 (pt_cmpR op_notIn_sign (pe_ix ix_str (pv 0) pe_int (fun _ _ => rfl)) (pe_slice sl_txt (pv 1) po_none (po_some pe_int)) rfl)))))).pt
        (pss_one (ps_ret pe_bl))
        pss_nil)
      (pss_one (ps_ret (pe_cmpR op_notIn_seq pe_bl (pe_lc (own := [("sign", 2)]) (g := gName 2) (by rfl) sc.nd (pi_str (pv 0)) (blkOk_by (own := [("sign", 2)]) (N := ["word", "signs", "sign"]) (sc := defScope (top 52)) (by decide +kernel)) (fun _ _ _ _ _ => pg_name (i := 2) sc.nd rfl (.inl rfl)) (fun _ _ _ _ _ => pts_nil) (fun _ _ _ _ _ => pe_cmpR op_in_sign (pv 2) (pv 1) rfl)) rfl))))), ?_⟩
    simp only [L2.start, cxOf, tRet, tAndV, tOrV, tNotV, tCB, tCons, tNil, tVar, tC, tOp, tUn, tTest, tB, tIf, tIfS, tSeq, tAsg, tAnd, tOr, tNot, gName, tNext, tCall, tChain, rI, rI0, rEq, rNe, rGcd, rU, tM1, tM0, tSl, tPart, tNoPart, gTup, gCons, gNil, gSub, tTup, tLst, tPar, L2.rI, List.map_cons, List.map_nil, List.length_cons, List.length_nil, List.cons_append, List.nil_append, List.append_nil, List.getElem?_cons_zero, List.getElem?_cons_succ, List.set_cons_zero, List.set_cons_succ, Option.some.injEq, exists_eq_left, exists_eq_left', exists_eq_right, exists_and_left, exists_and_right, List.cons.injEq, and_true, true_and, V.int.injEq, V.str.injEq, V.bl.injEq, V.ref.injEq, List.replicate, Nat.reduceAdd, Nat.reduceSub, reduceCtorEq, false_and, and_false, if_true, if_false, Bool.false_eq_true, Bool.not_true, Bool.not_false, decide_eq_true_eq, exists_false, or_false, false_or]
    have szl := sizeLine_eq
    have q0 : ∀ (b : Bool) (H' : Hp), Same H H' → nameB u = b → Q (.bl b) H' := fun b H' s e => e ▸ q H' s
    have len : LenV K (.str (S u)) H u.length := len_S (by omega)
    refine ⟨u.length, len, ?_⟩
    by_cases c1 : (u.length : Int) < 1
    · rw [if_pos c1]
      refine q0 _ H (Same.refl H) ?_
      unfold nameB valueB
      rw [decide_eq_false (by omega), Bool.false_and, Bool.false_and]
    rw [if_neg c1]
    refine ⟨u.length, len, ?_⟩
    by_cases c2 : (8 : Int) < u.length
    · rw [if_pos c2]
      refine q0 _ H (Same.refl H) ?_
      unfold nameB valueB
      rw [decide_eq_false (by omega), Bool.false_and, Bool.false_and]
    rw [if_neg c2]
    have hv : decide (1 ≤ u.length ∧ u.length ≤ 8) = true := decide_eq_true (by omega)
    refine ⟨rfl, fun a ha => ⟨a, W20.reserved.map V.str, rfl, .inl (SqL.of upd_same), rfl, by decide +kernel, ?_⟩⟩
    rw [if_neg (by decide), inV_S]
    have s1 := same_new (o := .lst (W20.reserved.map V.str)) ha
    rw [show (W20.reserved.map fun x : Str => x.cps.toList) = RESL from rfl]
    refine ⟨_, rfl, ?_⟩
    by_cases c3 : u ∈ RESL
    · rw [if_pos (decide_eq_true c3)]
      refine q0 _ _ s1 ?_
      unfold nameB
      rw [decide_eq_true c3]
      simp
    rw [if_neg (by simpa using c3)]
    obtain ⟨c, r, rfl⟩ : ∃ c r, u = c :: r := by
      cases u with
      | nil => exact absurd (show ((([] : List Nat).length : Nat) : Int) < 1 by decide) c1
      | cons c r => exact ⟨c, r, rfl⟩
    refine ⟨_, 0, c, rfl, rfl, by rw [S_len, szl]; omega, at_zero, ?_⟩
    have e36 : (Str.ofString "abcdefghijklmnopqrstuvwxyz0123456789") = S SIGNL := (S_tl _).symm
    have e26 : SIGNL.take (Int.toNat 26) = LETL := by decide +kernel
    have l36 : SIGNL.length = 36 := by decide +kernel
    refine ⟨_, rfl, small (by rw [e36, S_len, l36]; decide), c, rfl, _, rfl, ?_⟩
    rw [e36, SX.slice_to (by decide), e26]
    have eL : (S LETL).cps.toList = LETL := by simp [S]
    have eS : (S SIGNL).cps.toList = SIGNL := by simp [S]
    rw [eL]
    by_cases c4 : c ∈ LETL
    · rw [if_neg (by simp [c4])]
      have en : nameB (c :: r) = (c :: r).all fun c => decide (c ∈ SIGNL) := by
        unfold nameB valueB
        dsimp only
        rw [hv, decide_eq_true c4, decide_eq_false c3]
        simp
      generalize c :: r = u at en lu q0 ⊢
      refine lc_strl (a := u) (fun R h => ⟨_, rfl, h⟩) (fun x => rfl) fun D hD => ⟨fun i H' => Same H H' ∧ H' D = some (.lst (((u.take i).map fun c => decide (c ∈ SIGNL)).map V.bl)), ⟨s1.trans (same_new hD), upd_same⟩, fun i c0 H' hc ⟨sH, hDD⟩ => ?_, fun H' ⟨sH, hDD⟩ => ?_⟩
      · have li : i < u.length := (List.getElem?_eq_some_iff.mp hc).1
        have tk : u.take (i + 1) = u.take i ++ [c0] := by rw [List.take_succ, hc]; rfl
        unfold tYes
        dsimp only
        rw [if_pos rfl]
        simp only [L2.start, cxOf, tRet, tAndV, tOrV, tNotV, tCB, tCons, tNil, tVar, tC, tOp, tUn, tTest, tB, tIf, tIfS, tSeq, tAsg, tAnd, tOr, tNot, gName, tNext, tCall, tChain, rI, rI0, rEq, rNe, rGcd, rU, tM1, tM0, tSl, tPart, tNoPart, gTup, gCons, gNil, gSub, tTup, tLst, tPar, L2.rI, List.map_cons, List.map_nil, List.length_cons, List.length_nil, List.cons_append, List.nil_append, List.append_nil, List.getElem?_cons_zero, List.getElem?_cons_succ, List.set_cons_zero, List.set_cons_succ, Option.some.injEq, exists_eq_left, exists_eq_left', exists_eq_right, exists_and_left, exists_and_right, List.cons.injEq, and_true, true_and, V.int.injEq, V.str.injEq, V.bl.injEq, V.ref.injEq, List.replicate, Nat.reduceAdd, Nat.reduceSub, reduceCtorEq, false_and, and_false, if_true, if_false, Bool.false_eq_true, Bool.not_true, Bool.not_false, decide_eq_true_eq, exists_false, or_false, false_or]
        refine ⟨_, rfl, _, rfl, c0, rfl, _, rfl, _, hDD, by rw [List.length_map, List.length_map, List.length_take, szl]; omega, fun b o hb => ?_, ?_⟩
        · rw [upd_ne (ne_of_none (s1 _ _ hb) hD)]
          exact sH _ _ hb
        · rw [upd_same, tk, List.map_append, List.map_append, eS]
          rfl
      · rw [List.take_length] at hDD
        refine ⟨D, _, rfl, .inl (SqL.of hDD), rfl, ?_, ?_⟩
        · rw [List.all_eq_true]
          intro v hv
          obtain ⟨w, _, rfl⟩ := List.mem_map.mp hv
          rfl
        · rw [if_pos rfl]
          have e : inV (V.bl false) ((u.map fun c => decide (c ∈ SIGNL)).map V.bl) = !(u.all fun c => decide (c ∈ SIGNL)) := by
            unfold inV
            rw [Bool.eq_iff_iff, List.any_eq_true, Bool.not_eq_true', ← Bool.not_eq_true, List.all_eq_true]
            constructor
            · rintro ⟨v, hv, e⟩ z
              obtain ⟨b, hb, rfl⟩ := List.mem_map.mp hv
              obtain ⟨c0, hc0, rfl⟩ := List.mem_map.mp hb
              rw [z c0 hc0] at e
              cases e
            · intro z
              simp only [Classical.not_forall] at z
              obtain ⟨c0, hc0, hn⟩ := z
              refine ⟨.bl (decide (c0 ∈ SIGNL)), List.mem_map_of_mem (List.mem_map_of_mem hc0), ?_⟩
              rw [show decide (c0 ∈ SIGNL) = false by simpa using hn]
              rfl
          rw [e, Bool.not_not]
          exact q0 _ H' sH en
    · rw [if_pos (by simp [c4])]
      refine q0 _ _ s1 ?_
      unfold nameB
      dsimp only
      rw [decide_eq_false c4]
      simp
theorem sd55 : FnScope ["words", "word"] ["words"] (defScope (top 55)) := fnScope_by (by decide +kernel)
def spBare : Sp := fun vs H Q _ => ∃ t ws, vs = [.ref t] ∧ H t = some (wordsV ws) ∧ ws.length ≤ 1000 ∧ ∀ H' a, Same H H' → H a = none → LandAt H' a ws → Q (.ref a) H'
theorem ok_bare (m : Mg K mg) (F : Fn K "_law_bare_land" 55 f fd) (g : mg "_law_bare_land" = some (.ref f)) : Cal P w K mg base 1 "_law_bare_land" spBare [] := by
  have sc := sd55
  refine calD F g sc (fun _ _ _ _ _ _ us hl => match us, hl with | [_], _ => rfl) ?_ fun cdv A outer s H vs Q E hr h => ?_
  · rintro vs H Q E ⟨t, ws, rfl, _⟩
    rfl
  · obtain ⟨t, ws, rfl, ht, few, q⟩ := h
    refine ⟨_, (pss_one (ps_ret (pe_lc (own := [("word", 1)]) (g := gName 1) (by rfl) sc.nd (pi_list (pv 0)) (blkOk_by (own := [("word", 1)]) (N := ["words", "word"]) (sc := defScope (top 55)) (by decide +kernel)) (fun _ _ _ _ _ => pg_name (i := 1) sc.nd rfl (.inl rfl)) (fun _ _ _ _ _ => pts_nil) (fun _ _ _ _ _ => (pe_lst (pa_cons (pv 1) (pa_cons (pe_lst pa_nil) (pa_cons pe_str (pa_cons pe_non pa_nil))))))))), ?_⟩
    have szl := sizeLine_eq
    simp only [L2.start, cxOf, tRet, tAndV, tOrV, tNotV, tCB, tCons, tNil, tVar, tC, tOp, tUn, tTest, tB, tIf, tIfS, tSeq, tAsg, tAnd, tOr, tNot, gName, tNext, tCall, tChain, rI, rI0, rEq, rNe, rGcd, rU, tM1, tM0, tSl, tPart, tNoPart, gTup, gCons, gNil, gSub, tTup, tLst, tPar, L2.rI, List.map_cons, List.map_nil, List.length_cons, List.length_nil, List.cons_append, List.nil_append, List.append_nil, List.getElem?_cons_zero, List.getElem?_cons_succ, List.set_cons_zero, List.set_cons_succ, Option.some.injEq, exists_eq_left, exists_eq_left', exists_eq_right, exists_and_left, exists_and_right, List.cons.injEq, and_true, true_and, V.int.injEq, V.str.injEq, V.bl.injEq, V.ref.injEq, List.replicate, Nat.reduceAdd, Nat.reduceSub, reduceCtorEq, false_and, and_false, if_true, if_false, Bool.false_eq_true, Bool.not_true, Bool.not_false, decide_eq_true_eq, exists_false, or_false, false_or]
    refine Lay.lc_list (K := K) (v := 1) (l := t) (xs := wV ws) (fun R h => ⟨_, rfl, h⟩) (SqL.of ht) (fun x => rfl) fun D hD => ⟨fun i H' => Same H H' ∧ ∃ us, H' D = some (.lst us) ∧ us.length ≤ i ∧ ∀ H'' : Hp, (∀ a o, a ≠ D → H' a = some o → H'' a = some o) → Paired (WordAt H'') (ws.take i) us,
      ⟨same_new hD, [], upd_same, Nat.le_refl _, fun _ _ => .nil⟩, fun i H' hi h => SqL.of (h.1 _ _ ht), fun i z H' hz ⟨sH, us, hDD, lu, al⟩ => ?_, fun H' ⟨sH, us, hDD, lu, al⟩ => ?_⟩
    · rw [List.getElem?_map] at hz
      obtain ⟨u, hu, rfl⟩ := Option.map_eq_some_iff.mp hz
      have li : i < ws.length := (List.getElem?_eq_some_iff.mp hu).1
      have tk : ws.take (i + 1) = ws.take i ++ [u] := by rw [List.take_succ, hu]; rfl
      unfold tYes
      dsimp only
      rw [if_pos rfl]
      simp only [L2.start, cxOf, tRet, tAndV, tOrV, tNotV, tCB, tCons, tNil, tVar, tC, tOp, tUn, tTest, tB, tIf, tIfS, tSeq, tAsg, tAnd, tOr, tNot, gName, tNext, tCall, tChain, rI, rI0, rEq, rNe, rGcd, rU, tM1, tM0, tSl, tPart, tNoPart, gTup, gCons, gNil, gSub, tTup, tLst, tPar, L2.rI, List.map_cons, List.map_nil, List.length_cons, List.length_nil, List.cons_append, List.nil_append, List.append_nil, List.getElem?_cons_zero, List.getElem?_cons_succ, List.set_cons_zero, List.set_cons_succ, Option.some.injEq, exists_eq_left, exists_eq_left', exists_eq_right, exists_and_left, exists_and_right, List.cons.injEq, and_true, true_and, V.int.injEq, V.str.injEq, V.bl.injEq, V.ref.injEq, List.replicate, Nat.reduceAdd, Nat.reduceSub, reduceCtorEq, false_and, and_false, if_true, if_false, Bool.false_eq_true, Bool.not_true, Bool.not_false, decide_eq_true_eq, exists_false, or_false, false_or]
      refine ⟨_, rfl, small (by decide), fun e he => ⟨small (by decide), fun c hc => ?_⟩⟩
      have s1 := same_new (o := .lst []) he
      have s2 := same_new (o := .lst [V.str (S u), V.ref e, V.str (Str.ofString "shown"), V.non]) hc
      have s12 : Same H' _ := s1.trans s2
      have ncD : c ≠ D := fun z => by rw [z, s1 _ _ hDD] at hc; cases hc
      refine ⟨us, s12 _ _ hDD, by omega, fun b o hb => ?_, us ++ [.ref c], upd_same, by rw [List.length_append]; simp; omega, fun H'' k => ?_⟩
      · rw [upd_ne (ne_of_none hb hD)]
        exact s12 _ _ (sH _ _ hb)
      · rw [tk]
        refine paired_app (al H'' fun a o na ha => k a o na (by rw [upd_ne na]; exact s12 _ _ ha)) (.cons ⟨c, _, rfl, k c _ ncD (by rw [upd_ne ncD, upd_same])⟩ .nil)
    · rw [List.length_map, List.take_length] at al
      exact q H' D sH hD ⟨us, hDD, al H' fun _ _ _ e => e⟩
theorem sd56 : FnScope ["land", "places", "p"] ["land", "places"] (defScope (top 56)) := fnScope_by (by decide +kernel)
def spLotW : Sp := fun vs H Q _ => ∃ a l ws ps us, vs = [.ref a, .ref l] ∧ LandAt H a ws ∧ H l = some (.lst (plV ps)) ∧ ps.length ≤ 1000 ∧ ps.map (fun p => ws[p]?) = us.map some ∧ ∀ H' t, Same H H' → H t = none → H' t = some (.tup (wV us)) → Q (.ref t) H'
theorem ok_lotw (m : Mg K mg) (F : Fn K "_law_lot_words" 56 f fd) (g : mg "_law_lot_words" = some (.ref f)) : Cal P w K mg base 1 "_law_lot_words" spLotW [] := by
  have sc := sd56
  refine calD F g sc (fun _ _ _ _ _ _ us hl => match us, hl with | [_, _], _ => rfl) ?_ fun cdv A outer s H vs Q E hr h => ?_
  · rintro vs H Q E ⟨a, l, ws, ps, us, rfl, _⟩
    rfl
  · obtain ⟨a, l, ws, ps, us, rfl, ld, hl, few, e, q⟩ := h
    refine ⟨_, (pss_one (ps_ret (pe_callTy call_tuple_of (by rfl) m.tuple_ boot_tuple (pa_cons (pe_lc (own := [("p", 2)]) (g := gName 2) (by rfl) sc.nd (pi_list (pv 1)) (blkOk_by (own := [("p", 2)]) (N := ["land", "places", "p"]) (sc := defScope (top 56)) (by decide +kernel)) (fun _ _ _ _ _ => pg_name (i := 2) sc.nd rfl (.inl rfl)) (fun _ _ _ _ _ => pts_nil) (fun _ _ _ _ _ => (pe_ix (show IxR _ (rIxL K) from ix_list) (pe_ix (show IxR _ (rIxL K) from ix_list) (pv 0) (pv 2) (fun _ _ => rfl)) pe_int (fun _ _ => rfl)))) pa_nil)))), ?_⟩
    have szl := sizeLine_eq
    have lu : ps.length = us.length := by
      have := congrArg List.length e
      simpa using this
    simp only [L2.start, cxOf, tRet, tAndV, tOrV, tNotV, tCB, tCons, tNil, tVar, tC, tOp, tUn, tTest, tB, tIf, tIfS, tSeq, tAsg, tAnd, tOr, tNot, gName, tNext, tCall, tChain, rI, rI0, rEq, rNe, rGcd, rU, tM1, tM0, tSl, tPart, tNoPart, gTup, gCons, gNil, gSub, tTup, tLst, tPar, L2.rI, List.map_cons, List.map_nil, List.length_cons, List.length_nil, List.cons_append, List.nil_append, List.append_nil, List.getElem?_cons_zero, List.getElem?_cons_succ, List.set_cons_zero, List.set_cons_succ, Option.some.injEq, exists_eq_left, exists_eq_left', exists_eq_right, exists_and_left, exists_and_right, List.cons.injEq, and_true, true_and, V.int.injEq, V.str.injEq, V.bl.injEq, V.ref.injEq, List.replicate, Nat.reduceAdd, Nat.reduceSub, reduceCtorEq, false_and, and_false, if_true, if_false, Bool.false_eq_true, Bool.not_true, Bool.not_false, decide_eq_true_eq, exists_false, or_false, false_or]
    refine Lay.lc_list (K := K) (v := 2) (l := l) (xs := plV ps) (fun R h => ⟨_, rfl, h⟩) (SqL.of hl) (fun x => rfl) fun D hD => ⟨fun i H' => Same H H' ∧ H' D = some (.lst (wV (us.take i))), ⟨same_new hD, upd_same⟩, fun i H' hi h => SqL.of (h.1 _ _ hl), fun i z H' hz ⟨sH, hDD⟩ => ?_, fun H' ⟨sH, hDD⟩ => ?_⟩
    · rw [List.getElem?_map] at hz
      obtain ⟨p, hp, rfl⟩ := Option.map_eq_some_iff.mp hz
      have li : i < ps.length := (List.getElem?_eq_some_iff.mp hp).1
      obtain ⟨u, hu⟩ : ∃ u, us[i]? = some u := ⟨_, List.getElem?_eq_getElem (by omega)⟩
      have ew : ws[p]? = some u := by
        have h1 : (ps.map (fun p => ws[p]?))[i]? = some (ws[p]?) := by rw [List.getElem?_map, hp]; rfl
        rw [e, List.getElem?_map, hu] at h1
        exact (Option.some.inj h1).symm
      have tk : us.take (i + 1) = us.take i ++ [u] := by rw [List.take_succ, hu]; rfl
      unfold tYes
      dsimp only
      rw [if_pos rfl]
      simp only [L2.start, cxOf, tRet, tAndV, tOrV, tNotV, tCB, tCons, tNil, tVar, tC, tOp, tUn, tTest, tB, tIf, tIfS, tSeq, tAsg, tAnd, tOr, tNot, gName, tNext, tCall, tChain, rI, rI0, rEq, rNe, rGcd, rU, tM1, tM0, tSl, tPart, tNoPart, gTup, gCons, gNil, gSub, tTup, tLst, tPar, L2.rI, List.map_cons, List.map_nil, List.length_cons, List.length_nil, List.cons_append, List.nil_append, List.append_nil, List.getElem?_cons_zero, List.getElem?_cons_succ, List.set_cons_zero, List.set_cons_succ, Option.some.injEq, exists_eq_left, exists_eq_left', exists_eq_right, exists_and_left, exists_and_right, List.cons.injEq, and_true, true_and, V.int.injEq, V.str.injEq, V.bl.injEq, V.ref.injEq, List.replicate, Nat.reduceAdd, Nat.reduceSub, reduceCtorEq, false_and, and_false, if_true, if_false, Bool.false_eq_true, Bool.not_true, Bool.not_false, decide_eq_true_eq, exists_false, or_false, false_or]
      refine ⟨_, rfl, _, rfl, land_ix (ld.same sH) ew ⟨_, hDD, by rw [List.length_map, List.length_take]; omega, fun b o hb => ?_, ?_⟩⟩
      · rw [upd_ne (ne_of_none hb hD)]
        exact sH _ _ hb
      · rw [upd_same, tk]
        simp only [wV, List.map_append, List.map_cons, List.map_nil]
    · rw [List.length_map, lu, List.take_length] at hDD
      exact ⟨D, rfl, _, .inl ⟨SqL.of hDD, fun t ht => q _ t (Same.trans sH (same_new ht)) (Same.fresh sH ht) upd_same⟩⟩
end
end W20

set_option Elab.async false
set_option linter.all false
set_option maxRecDepth 100000
set_option maxHeartbeats 4000000
/-! RD20: _law_read, _law_above -/
namespace P20
theorem leavesS_mem : ∀ {st : List (Option Tr)} {t : Tr}, some t ∈ st → (leaves t).length ≤ (leavesS st).length
  | none :: st, t, h => leavesS_mem (st := st) (by simpa using h)
  | some x :: st, t, h => by
    rw [leavesS, List.length_append]
    rcases List.mem_cons.mp h with z | z
    · cases z
      omega
    · have := leavesS_mem z
      omega
end P20
namespace W20
open PySem PySem.Spec PyProof.Rows L2 Lay
open SX (S S_len S_cat S_tl)
open C8 (Cal Mak Met pe_c pe_mk pe_gc fnScope_by E0 sl_txt rSlX)
/-- what stands for one item of the reader's stack -/
def SE (X : Addr → Prop) (H : Hp) (used : List P20.Wd) : Option P20.Tr → V → Prop
  | none => fun v => v = .non
  | some t => fun v => ∃ pt : P20.PT, pt.er = t ∧ P20.Lab used pt ∧ TabAt X H (P20.rows pt) v
theorem SE.non {X : Addr → Prop} {H : Hp} {used : List P20.Wd} {o : Option P20.Tr} {v : V} (h : SE X H used o v) : v = .non ↔ o = none := by
  cases o with
  | none => exact ⟨fun _ => rfl, fun _ => h⟩
  | some t =>
    obtain ⟨pt, _, _, a, us, e, _⟩ := h
    subst e
    exact ⟨fun z => (nomatch z), fun z => (nomatch z)⟩
theorem SE.more {X : Addr → Prop} {H H' : Hp} {used r : List P20.Wd} {o : Option P20.Tr} {v : V} (h : SE X H used o v) (e : ∀ a o, X a → H a = some o → H' a = some o) : SE X H' (used ++ r) o v := by
  cases o with
  | none => exact h
  | some t =>
    obtain ⟨pt, e1, lb, tb⟩ := h
    exact ⟨pt, e1, lb.app, tb.keep e⟩
theorem paired_split {α β : Type} {R : α → β → Prop} : ∀ {xs ys : List α} {zs : List β}, Paired R (xs ++ ys) zs → ∃ z1 z2, zs = z1 ++ z2 ∧ Paired R xs z1 ∧ Paired R ys z2
  | [], ys, zs, h => ⟨[], zs, rfl, .nil, h⟩
  | x :: xs, ys, _, .cons r t => by
    obtain ⟨z1, z2, e, h1, h2⟩ := paired_split (xs := xs) t
    exact ⟨_ :: z1, z2, by rw [e]; rfl, .cons r h1, h2⟩
theorem at_back {xs : List V} {k : Nat} {v : V} (h1 : 0 < k) (h2 : k ≤ xs.length) (h : xs[xs.length - k]? = some v) : atI xs (-(k : Int)) = some v := by
  unfold atI ixN
  rw [if_neg (by omega), if_pos (by omega)]
  show xs[(-(k : Int) + (xs.length : Int)).toNat]? = _
  rw [show (-(k : Int) + (xs.length : Int)).toNat = xs.length - k by omega]
  exact h
section
variable {P : Program} {w : World} {K : PySem.W.Frag} {mg : Str → Option Value} {base : Heap} {f : Addr} {fd : FuncData}
theorem sd57 : FnScope ["words", "used", "stack", "word", "right", "left"] ["words"] (defScope (top 57)) := fnScope_by (by decide +kernel)
def spRead : Sp := fun vs H Q _ => ∃ t ws, vs = [.ref t] ∧ H t = some (wordsV ws) ∧ ws.length ≤ 300 ∧ (∀ u ∈ ws, u.length ≤ 10) ∧
  (P20.readOf nameB ws = none → ∀ H', Same H H' → Q .non H') ∧
  (∀ u T, P20.readOf nameB ws = some (u, T) → ∀ H' a l v pt, Same H H' → H a = none → H' a = some (.lst [.ref l, v]) → H' l = some (wordsV u) → l ≠ a → H l = none → pt.er = T → P20.Lab u pt → TabAt (fun _ => True) H' (P20.rows pt) v → Q (.ref a) H')
theorem ok_read (m : Mg K mg) (c__law_named : Cal P w K mg base 2 "_law_named" spNamed []) (c__law_joined : Cal P w K mg base 1 "_law_joined" spJoin []) (F : Fn K "_law_read" 57 f fd) (g : mg "_law_read" = some (.ref f)) : Cal P w K mg base 3 "_law_read" spRead [] := by
  have sc := sd57
  refine calD F g sc (fun _ _ _ _ _ _ us hl => match us, hl with | [_], _ => rfl) ?_ fun cdv A outer s H vs Q E hr h => ?_
  · rintro vs H Q E ⟨t, ws, rfl, _⟩
    rfl
  · obtain ⟨t, ws, rfl, ht, fw, w10, qn, qs⟩ := h
    refine ⟨_, (pss_cons (ps_set (i := 1) sc.nd rfl (.inl rfl) (pe_lst pa_nil))
      (pss_cons (ps_set (i := 2) sc.nd rfl (.inl rfl) (pe_lst pa_nil))
      (pss_cons (ps_for pown rfl (pi_list (pv 0)) (pg_name (i := 3) sc.nd rfl (.inl rfl))
        (pss_one (ps_if (pt_cmpR op_eq (pv 3) pe_str (nomark _))
          (pss_one (ps_expr (pe_bm PySem.F.plainAttrs_list PySem.F.slot_list_append PySem.F.type_list_append mt_append (pv 2) (pa_cons pe_non pa_nil))))
          (pss_one (ps_if (pt_cmpR op_eq (pv 3) pe_str (nomark _))
            (pss_cons (ps_if ((pw_or (pt_cmpR op_lt (pe_callB call_len (by rfl) m.len_ boot_len (pa_cons (pv 2) pa_nil)) pe_int (nomark _)) (pw_or (pt_cmpR op_isN (pe_ix ix_list (pv 2) (pe_un un_neg pe_int) (fun _ _ => rfl)) pe_non (nomark _)) (pw_or (pt_cmpR op_isN (pe_ix ix_list (pv 2) (pe_un un_neg pe_int) (fun _ _ => rfl)) pe_non (nomark _)) (pw_or1 (pt_cmpR op_notN (pe_ix ix_list (pv 2) (pe_un un_neg pe_int) (fun _ _ => rfl)) pe_non (nomark _))))))).pt
              (pss_one (ps_ret pe_non))
              pss_nil)
            (pss_cons (ps_set (i := 4) sc.nd rfl (.inl rfl) (pe_bm0 PySem.F.plainAttrs_list PySem.F.slot_list_pop PySem.F.type_list_pop mt_pop (pv 2)))
            (pss_cons (ps_set (i := 5) sc.nd rfl (.inl rfl) (pe_bm0 PySem.F.plainAttrs_list PySem.F.slot_list_pop PySem.F.type_list_pop mt_pop (pv 2)))
            (pss_cons (ps_expr (pe_bm0 PySem.F.plainAttrs_list PySem.F.slot_list_pop PySem.F.type_list_pop mt_pop (pv 2)))
            (pss_one (ps_expr (pe_bm PySem.F.plainAttrs_list PySem.F.slot_list_append PySem.F.type_list_append mt_append (pv 2) (pa_cons (pe_c c__law_joined hr (by omega) (by rfl) (pa_cons (pv 5) (pa_cons (pv 4) pa_nil))) pa_nil))))))))
            (pss_cons (ps_if ((pw_or (pt_not (pt_val (pe_c c__law_named hr (by omega) (by rfl) (pa_cons (pv 3) pa_nil)))) (pw_or1 (pt_cmpR op_in_seq (pv 3) (pv 1) rfl)))).pt
              (pss_one (ps_ret pe_non))
              pss_nil)
            (pss_cons (ps_expr (pe_bm PySem.F.plainAttrs_list PySem.F.slot_list_append PySem.F.type_list_append mt_append (pv 1) (pa_cons (pv 3) pa_nil)))
            (pss_one (ps_expr (pe_bm PySem.F.plainAttrs_list PySem.F.slot_list_append PySem.F.type_list_append mt_append (pv 2) (pa_cons (pe_lst (pa_cons (pe_lst (pa_cons (pv 3) (pa_cons (pe_lst (pa_cons (pe_op op_sub (pe_callB call_len (by rfl) m.len_ boot_len (pa_cons (pv 1) pa_nil)) pe_int) pa_nil)) (pa_cons (pe_un un_neg pe_int) (pa_cons (pe_un un_neg pe_int) pa_nil))))) pa_nil)) pa_nil)))))))))))
      (pss_cons (ps_if ((pw_or (pt_cmpR op_ne (pe_callB call_len (by rfl) m.len_ boot_len (pa_cons (pv 2) pa_nil)) pe_int (nomark _)) (pw_or1 (pt_cmpR op_isN (pe_ix ix_list (pv 2) pe_int (fun _ _ => rfl)) pe_non (nomark _))))).pt
        (pss_one (ps_ret pe_non))
        pss_nil)
      (pss_one (ps_ret (pe_lst (pa_cons (pv 1) (pa_cons (pe_ix ix_list (pv 2) pe_int (fun _ _ => rfl)) pa_nil))))))))), ?_⟩
    have szl := sizeLine_eq
    simp only [L2.start, cxOf, tRet, tAndV, tOrV, tNotV, tCB, tCons, tNil, tVar, tC, tOp, tUn, tTest, tB, tSeq, tAsg, tNot, gName, tNext, tCall, tChain, rI, rI0, rEq, rNe, rGcd, rU, tM1, tM0, tSl, tPart, tNoPart, gTup, gCons, gNil, gSub, tTup, tLst, tPar, L2.rI, List.map_cons, List.map_nil, List.length_cons, List.length_nil, List.cons_append, List.nil_append, List.append_nil, List.getElem?_cons_zero, List.getElem?_cons_succ, List.set_cons_zero, List.set_cons_succ, Option.some.injEq, exists_eq_left, exists_eq_left', exists_eq_right, exists_and_left, exists_and_right, List.cons.injEq, and_true, true_and, V.int.injEq, V.str.injEq, V.bl.injEq, V.ref.injEq, List.replicate, Nat.reduceAdd, Nat.reduceSub, reduceCtorEq, false_and, and_false, if_true, if_false, Bool.false_eq_true, Bool.not_true, Bool.not_false, decide_eq_true_eq, exists_false, or_false, false_or]
    refine ⟨small (by decide), fun l hl => ⟨small (by decide), fun s hs => ?_⟩⟩
    have nls : l ≠ s := fun z => by rw [← z, upd_same] at hs; cases hs
    have hs0 : H s = none := by rw [upd_ne (Ne.symm nls)] at hs; exact hs
    have s0 := (same_new (o := .lst []) hl).trans (same_new (o := .lst []) hs)
    refine for_list_at (l := t) (xs := wV ws) (fun R k => ⟨_, rfl, k⟩) (SqL.of (s0 _ _ ht)) ⟨fun i σ' H' => ∃ (st : P20.LS) (vs : List V) (y3 y4 y5 : Option V), σ' = [some (.ref t), some (.ref l), some (.ref s), y3, y4, y5] ∧ Same H H' ∧ H' l = some (wordsV st.used) ∧ H' s = some (.lst vs) ∧
      Paired (SE (fun a => a ≠ s ∧ a ≠ l) H' st.used) st.st.reverse vs ∧ P20.rdAll nameB (ws.drop i) st = P20.rdAll nameB ws ⟨[], []⟩ ∧ P20.SOk nameB (ws.take i) st ∧ vs.length ≤ i ∧ st.used.length ≤ i,
      ⟨⟨[], []⟩, [], none, none, none, rfl, s0, by rw [upd_ne nls, upd_same]; rfl, upd_same, .nil, rfl, P20.SOk.nil, Nat.le_refl _, Nat.le_refl _⟩, ?_, ?_, ?_⟩
    · rintro i σ' H' _ ⟨st, vs, y3, y4, y5, rfl, sm, _⟩
      exact SqL.of (sm _ _ ht)
    · rintro i x σ' H' hx ⟨st, vs, y3, y4, y5, rfl, sm, hu, hst, al, fol, ok, lv, lu⟩
      rw [List.getElem?_map] at hx
      obtain ⟨w0, hw, rfl⟩ := Option.map_eq_some_iff.mp hx
      obtain ⟨hi, ew⟩ := List.getElem?_eq_some_iff.mp hw
      have dr : ws.drop i = w0 :: ws.drop (i + 1) := by rw [List.drop_eq_getElem_cons hi, ew]
      have tk : ws.take (i + 1) = ws.take i ++ [w0] := by rw [List.take_succ, hw]; rfl
      rw [dr] at fol
      have bad : P20.rd nameB st w0 = none → ∀ H', Same H H' → Q .non H' := fun z => qn (by
        unfold P20.readOf
        rw [← fol, P20.rdAll, z])
      have good : ∀ {s'}, P20.rd nameB st w0 = some s' → P20.rdAll nameB (ws.drop (i + 1)) s' = P20.rdAll nameB ws ⟨[], []⟩ ∧ P20.SOk nameB (ws.take (i + 1)) s' := fun {s'} z => by
        refine ⟨?_, ?_⟩
        · rw [← fol, P20.rdAll, z]
        · rw [tk]
          exact ok.step (fun w h => name_of h) z
      have lw0 := w10 w0 (List.mem_of_getElem? hw)
      have lenv : vs.length = st.st.length := by rw [← al.length, List.length_reverse]
      have ne_l : ∀ {b : Addr} {o : HO}, H b = some o → b ≠ l := fun e => ne_of_none e hl
      have ne_s : ∀ {b : Addr} {o : HO}, H b = some o → b ≠ s := fun e => ne_of_none e hs0
      have e40 : Str.ofString "(" = S [40] := by decide +kernel
      have e41 : Str.ofString ")" = S [41] := by decide +kernel
      simp only [L2.start, cxOf, tRet, tAndV, tOrV, tNotV, tCB, tCons, tNil, tVar, tC, tOp, tUn, tTest, tB, tIf, tIfS, tSeq, tAsg, tAnd, tOr, tNot, gName, tNext, tCall, tChain, rI, rI0, rEq, rNe, rGcd, rU, tM1, tM0, tSl, tPart, tNoPart, gTup, gCons, gNil, gSub, tTup, tLst, tPar, L2.rI, List.map_cons, List.map_nil, List.length_cons, List.length_nil, List.cons_append, List.nil_append, List.append_nil, List.getElem?_cons_zero, List.getElem?_cons_succ, List.set_cons_zero, List.set_cons_succ, Option.some.injEq, exists_eq_left, exists_eq_left', exists_eq_right, exists_and_left, exists_and_right, List.cons.injEq, and_true, true_and, V.int.injEq, V.str.injEq, V.bl.injEq, V.ref.injEq, List.replicate, Nat.reduceAdd, Nat.reduceSub, reduceCtorEq, false_and, and_false, if_true, if_false, Bool.false_eq_true, Bool.not_true, Bool.not_false, decide_eq_true_eq, exists_false, or_false, false_or, e40, e41, tDrop, tBM, tBM0]
      refine ⟨rfl, ?_⟩
      by_cases c1 : w0 = [40]
      · rw [if_pos (by rw [c1])]
        obtain ⟨f1, f2⟩ := good (s' := ⟨st.used, none :: st.st⟩) (by unfold P20.rd; rw [if_pos c1])
        refine ⟨.inl ⟨rfl, _, SqL.of hst⟩, s, vs, .non, rfl, rfl, hst, by omega, ⟨_, rfl⟩, fun b o hb => ?_, ⟨st.used, none :: st.st⟩, ?_, vs ++ [.non], upd_same, ?_, f1, f2, by rw [List.length_append]; simp; omega, by show st.used.length ≤ _; omega⟩
        · rw [upd_ne (ne_s hb)]
          exact sm _ _ hb
        · rw [upd_ne nls]
          exact hu
        · show Paired _ (none :: st.st).reverse _
          rw [List.reverse_cons]
          refine paired_app (L2.Paired.mapP al fun o v h => ?_) (.cons rfl .nil)
          have := SE.more (r := []) h (H' := upd H' s (.lst (vs ++ [V.non]))) fun a o xa e => by rw [upd_ne xa.1]; exact e
          rwa [List.append_nil] at this
      rw [if_neg fun z => c1 (SX.S_inj z)]
      refine ⟨rfl, ?_⟩
      by_cases c2 : w0 = [41]
      · rw [if_pos (by rw [c2])]
        refine ⟨_, len_L (SqL.of hst), ?_⟩
        by_cases c3 : (vs.length : Int) < 3
        · rw [if_pos c3]
          refine bad ?_ H' sm
          unfold P20.rd
          rw [if_neg c1, if_pos c2]
          match e : st.st with
          | [] => rfl
          | [a] => cases a <;> rfl
          | [a, b] => cases a <;> cases b <;> rfl
          | a :: b :: c :: r =>
            rw [e] at lenv
            simp only [List.length_cons] at lenv
            omega
        rw [if_neg c3]
        obtain ⟨oa, ob, oc, st', est⟩ : ∃ a b c r, st.st = a :: b :: c :: r := by
          match e : st.st with
          | [] => rw [e] at lenv; simp only [List.length_cons, List.length_nil] at lenv; omega
          | [a] => rw [e] at lenv; simp only [List.length_cons, List.length_nil] at lenv; omega
          | [a, b] => rw [e] at lenv; simp only [List.length_cons, List.length_nil] at lenv; omega
          | a :: b :: c :: r => exact ⟨a, b, c, r, rfl⟩
        have er : st.st.reverse = st'.reverse ++ [oc, ob, oa] := by rw [est]; simp
        rw [er] at al
        obtain ⟨vs', w3, rfl, al1, al2⟩ := paired_split al
        obtain ⟨vc, vb, va, rfl, rc, rb, ra⟩ : ∃ vc vb va, w3 = [vc, vb, va] ∧ SE (fun a => a ≠ s ∧ a ≠ l) H' st.used oc vc ∧ SE (fun a => a ≠ s ∧ a ≠ l) H' st.used ob vb ∧ SE (fun a => a ≠ s ∧ a ≠ l) H' st.used oa va := by
          cases al2 with
          | cons r1 t1 =>
            cases t1 with
            | cons r2 t2 =>
              cases t2 with
              | cons r3 t3 =>
                cases t3
                exact ⟨_, _, _, rfl, r1, r2, r3⟩
        have len3 : (vs' ++ [vc, vb, va]).length = vs'.length + 3 := by simp
        refine ⟨s, _, -1, va, rfl, rfl, SqL.of hst, at_back (k := 1) (by decide) (by omega) (by rw [len3, List.getElem?_append_right (by omega), show vs'.length + 3 - 1 - vs'.length = 2 by omega]; rfl), ?_⟩
        have nogo : (oa = none ∨ ob = none ∨ oc ≠ none) → ∀ H', Same H H' → Q .non H' := fun z => bad (by
          unfold P20.rd
          rw [if_neg c1, if_pos c2, est]
          split
          · rename_i e
            cases e
            rcases z with z | z | z
            · cases z
            · cases z
            · exact absurd rfl z
          · rfl)
        dsimp only
        by_cases za : va = .non
        · rw [if_pos za]
          exact nogo (.inl (ra.non.mp za)) H' sm
        rw [if_neg za]
        refine ⟨s, _, -2, vb, rfl, rfl, SqL.of hst, at_back (k := 2) (by decide) (by omega) (by rw [len3, List.getElem?_append_right (by omega), show vs'.length + 3 - 2 - vs'.length = 1 by omega]; rfl), ?_⟩
        dsimp only
        by_cases zb : vb = .non
        · rw [if_pos zb]
          exact nogo (.inr (.inl (rb.non.mp zb))) H' sm
        rw [if_neg zb]
        refine ⟨s, _, -3, vc, rfl, rfl, SqL.of hst, at_back (k := 3) (by decide) (by omega) (by rw [len3, List.getElem?_append_right (by omega), show vs'.length + 3 - 3 - vs'.length = 0 by omega]; rfl), ?_⟩
        dsimp only
        by_cases zc : vc = .non
        · rw [if_neg (by simp [zc])]
          obtain rfl := rc.non.mp zc
          obtain ⟨r, rfl⟩ : ∃ r, oa = some r := by
            cases oa with
            | none => exact absurd (ra.non.mpr rfl) za
            | some r => exact ⟨r, rfl⟩
          obtain ⟨lf, rfl⟩ : ∃ r, ob = some r := by
            cases ob with
            | none => exact absurd (rb.non.mpr rfl) zb
            | some r => exact ⟨r, rfl⟩
          obtain ⟨f1, f2⟩ := good (s' := ⟨st.used, some (.node lf r) :: st'⟩) (by
            unfold P20.rd
            rw [if_neg c1, if_pos c2, est])
          obtain ⟨pr, epr, lbr, tbr⟩ := ra
          obtain ⟨pl, epl, lbl, tbl⟩ := rb
          have d1 : (vs' ++ [vc, vb, va]).dropLast = vs' ++ [vc, vb] := by rw [show vs' ++ [vc, vb, va] = (vs' ++ [vc, vb]) ++ [va] by simp, List.dropLast_concat]
          have d2 : (vs' ++ [vc, vb]).dropLast = vs' ++ [vc] := by rw [show vs' ++ [vc, vb] = (vs' ++ [vc]) ++ [vb] by simp, List.dropLast_concat]
          have d3 : (vs' ++ [vc]).dropLast = vs' := List.dropLast_concat
          refine ⟨.inl ⟨rfl, _, SqL.of hst⟩, s, _, va, rfl, rfl, hst, by rw [len3, List.getElem?_append_right (by omega), show vs'.length + 3 - 1 - vs'.length = 2 by omega]; rfl, ?_⟩
          rw [d1]
          refine ⟨.inl ⟨rfl, _, SqL.of upd_same⟩, s, _, vb, rfl, rfl, upd_same, by rw [List.length_append, List.getElem?_append_right (by simp), show vs'.length + [vc, vb].length - 1 - vs'.length = 1 by simp]; rfl, ?_⟩
          rw [d2, upd_upd]
          refine ⟨.inl ⟨rfl, _, SqL.of upd_same⟩, s, _, vc, rfl, rfl, upd_same, by rw [List.length_append, List.getElem?_append_right (by simp), show vs'.length + [vc].length - 1 - vs'.length = 0 by simp]; rfl, ?_⟩
          rw [d3, upd_upd]
          have kp : ∀ a o, (a ≠ s ∧ a ≠ l) → H' a = some o → upd H' s (.lst vs') a = some o := fun a o xa e => by rw [upd_ne xa.1]; exact e
          refine ⟨.inl ⟨rfl, _, SqL.of upd_same⟩, ?_⟩
          obtain ⟨i1, j1, ea⟩ := P20.rows_last pl
          obtain ⟨i2, j2, eb⟩ := P20.rows_last pr
          have b1 := P20.leavesS_mem (st := st.st) (t := lf) (by rw [est]; simp)
          have b2 := P20.leavesS_mem (st := st.st) (t := r) (by rw [est]; simp)
          rw [← ok.used] at b1 b2
          have g1 := ok.good lf (by rw [est]; simp)
          have g2 := ok.good r (by rw [est]; simp)
          have sp1 := P20.spell_len (k := 8) (t := lf) fun u hu => name_len (g1 u hu).1
          have sp2 := P20.spell_len (k := 8) (t := r) fun u hu => name_len (g2 u hu).1
          have q1 := P20.leaves_pl pl
          have q2 := P20.leaves_pl pr
          have f5 := P20.rows_few pl
          have f6 := P20.rows_few pr
          rw [epl] at q1
          rw [epr] at q2
          refine ⟨fun a => a ≠ s ∧ a ≠ l, vb, va, _, _, _, _, rfl, fun c hc => ⟨(fun z => by rw [z, upd_same] at hc; cases hc), (fun z => by rw [z, upd_ne nls, hu] at hc; cases hc)⟩, tbl.keep kp, tbr.keep kp, ea, eb, by omega, by omega, by show (P20.spell pl.er).length ≤ _; rw [epl]; omega, by show (P20.spell pr.er).length ≤ _; rw [epr]; omega, by show pl.pl.length ≤ _; omega, by show pr.pl.length ≤ _; omega, fun H4 z s4 tz => ?_⟩
          rw [← P20.rows_node pl pr ea eb] at tz
          have hs4 : H4 s = some (.lst vs') := s4 _ _ upd_same
          refine ⟨s, vs', z, rfl, rfl, hs4, by omega, ⟨_, rfl⟩, fun b o hb => ?_, ⟨st.used, some (.node lf r) :: st'⟩, ?_, vs' ++ [z], upd_same, ?_, f1, f2, by rw [List.length_append]; simp; omega, by show st.used.length ≤ _; omega⟩
          · rw [upd_ne (ne_s hb)]
            exact s4 _ _ (by rw [upd_ne (ne_s hb)]; exact sm _ _ hb)
          · rw [upd_ne nls]
            exact s4 _ _ (by rw [upd_ne nls]; exact hu)
          · show Paired _ (some (.node lf r) :: st').reverse _
            rw [List.reverse_cons]
            refine paired_app (L2.Paired.mapP al1 fun o v h => ?_) (.cons ⟨.node pl pr, by rw [P20.PT.er, epl, epr], ⟨lbl, lbr⟩, tz.keep fun a o xa e => by rw [upd_ne xa.1]; exact e⟩ .nil)
            have := SE.more (r := []) h (H' := upd H4 s (.lst (vs' ++ [z]))) fun a o xa e => by rw [upd_ne xa.1]; exact s4 _ _ (kp a o xa e)
            rwa [List.append_nil] at this
        · rw [if_pos (by simp [zc])]
          exact nogo (.inr (.inr fun z => zc (rc.non.mpr z))) H' sm
      rw [if_neg fun z => c2 (SX.S_inj z)]
      refine ⟨w0, rfl, by omega, fun H3 s3 => ⟨_, rfl, ?_⟩⟩
      have sm3 := sm.trans s3
      have hu3 := s3 _ _ hu
      have hst3 := s3 _ _ hst
      by_cases c4 : nameB w0 = true
      · rw [if_neg (by simp [c4])]
        refine rin_wordsF hu3 ⟨_, rfl, ?_⟩
        by_cases c5 : w0 ∈ st.used
        · rw [if_pos (by simp [c5])]
          refine bad ?_ H3 sm3
          unfold P20.rd
          rw [if_neg c1, if_neg c2, if_neg fun z => z.2 c5]
        · rw [if_neg (by simp [c5])]
          obtain ⟨f1, f2⟩ := good (s' := ⟨st.used ++ [w0], some (.leaf w0) :: st.st⟩) (by
            unfold P20.rd
            rw [if_neg c1, if_neg c2, if_pos ⟨c4, c5⟩])
          refine ⟨.inl ⟨rfl, _, SqL.of hu3⟩, l, _, .str (S w0), rfl, rfl, hu3, by rw [List.length_map]; omega, ?_⟩
          have ew : (st.used.map fun w => V.str (S w)) ++ [V.str (S w0)] = wV (st.used ++ [w0]) := by simp only [wV, List.map_append, List.map_cons, List.map_nil]
          rw [ew]
          have hl5 : upd H3 l (.lst (wV (st.used ++ [w0]))) l = some (wordsV (st.used ++ [w0])) := upd_same
          have hs5 : upd H3 l (.lst (wV (st.used ++ [w0]))) s = some (.lst vs) := by rw [upd_ne (Ne.symm nls)]; exact hst3
          have k5 : ∀ b o, b ≠ l → H' b = some o → upd H3 l (.lst (wV (st.used ++ [w0]))) b = some o := fun b o n e => by rw [upd_ne n]; exact s3 _ _ e
          generalize upd H3 l (.lst (wV (st.used ++ [w0]))) = H5 at hl5 hs5 k5 ⊢
          refine ⟨.inl ⟨rfl, _, SqL.of hs5⟩, _, len_L (SqL.of hl5), small (by decide), fun p hp => ⟨small (by decide), fun p1 hp1 => ⟨small (by decide), fun p2 hp2 => ?_⟩⟩⟩
          have el : (((st.used ++ [w0]).map fun w => V.str (S w)).length : Int) - 1 = ((st.used.length : Nat) : Int) := by
            rw [List.length_map, List.length_append, List.length_singleton]
            omega
          rw [el] at hp1 hp2 ⊢
          have t1 := same_new (o := .lst [V.int ((st.used.length : Nat) : Int)]) hp
          have t2 := same_new (o := .lst [V.str (S w0), V.ref p, V.int (-1), V.int (-1)]) hp1
          have t3 := same_new (o := .lst [V.ref p1]) hp2
          have t13 : Same H5 _ := t1.trans (t2.trans t3)
          have nes : ∀ {a : Addr} {G : Hp}, Same H5 G → G a = none → a ≠ s := fun sg e z => by rw [z, sg _ _ hs5] at e; cases e
          have nel : ∀ {a : Addr} {G : Hp}, Same H5 G → G a = none → a ≠ l := fun sg e z => by rw [z, sg _ _ hl5] at e; cases e
          have n0s := nes (Same.refl _) hp
          have n1s := nes t1 hp1
          have n2s := nes (t1.trans t2) hp2
          refine ⟨s, vs, .ref p2, rfl, rfl, t13 _ _ hs5, by omega, ⟨_, rfl⟩, fun b o hb => ?_, ⟨st.used ++ [w0], some (.leaf w0) :: st.st⟩, ?_, vs ++ [.ref p2], upd_same, ?_, f1, f2, by rw [List.length_append]; simp; omega, by show (st.used ++ [w0]).length ≤ _; rw [List.length_append]; simp; omega⟩
          · rw [upd_ne (ne_s hb)]
            exact t13 _ _ (k5 _ _ (ne_l hb) (sm _ _ hb))
          · rw [upd_ne nls]
            exact t13 _ _ hl5
          · show Paired _ (some (.leaf w0) :: st.st).reverse _
            rw [List.reverse_cons]
            refine paired_app (L2.Paired.mapP al fun o v h => SE.more h fun a o xa e => by rw [upd_ne xa.1]; exact t13 _ _ (k5 _ _ xa.2 e)) (.cons ⟨.leaf w0 st.used.length, rfl, ?_, p2, [.ref p1], rfl, ⟨n2s, nel (t1.trans t2) hp2⟩, ?_, .cons ⟨p1, p, rfl, ⟨n1s, nel t1 hp1⟩, ⟨n0s, nel (Same.refl _) hp⟩, ?_, ?_⟩ .nil⟩ .nil)
            · show (st.used ++ [w0])[st.used.length]? = some w0
              simp
            · rw [upd_ne n2s, upd_same]
            · rw [upd_ne n1s]
              exact t3 _ _ upd_same
            · rw [upd_ne n0s]
              exact t3 _ _ (t2 _ _ upd_same)
      · rw [if_pos (by simp [c4])]
        refine bad ?_ H3 sm3
        unfold P20.rd
        rw [if_neg c1, if_neg c2, if_neg fun z => c4 z.1]
    · rintro σ' H' ⟨st, vs, y3, y4, y5, rfl, sm, hu, hst, al, fol, ok, lv, lu⟩
      simp only [L2.start, cxOf, tRet, tAndV, tOrV, tNotV, tCB, tCons, tNil, tVar, tC, tOp, tUn, tTest, tB, tIf, tIfS, tSeq, tAsg, tAnd, tOr, tNot, gName, tNext, tCall, tChain, rI, rI0, rEq, rNe, rGcd, rU, tM1, tM0, tSl, tPart, tNoPart, gTup, gCons, gNil, gSub, tTup, tLst, tPar, L2.rI, List.map_cons, List.map_nil, List.length_cons, List.length_nil, List.cons_append, List.nil_append, List.append_nil, List.getElem?_cons_zero, List.getElem?_cons_succ, List.set_cons_zero, List.set_cons_succ, Option.some.injEq, exists_eq_left, exists_eq_left', exists_eq_right, exists_and_left, exists_and_right, List.cons.injEq, and_true, true_and, V.int.injEq, V.str.injEq, V.bl.injEq, V.ref.injEq, List.replicate, Nat.reduceAdd, Nat.reduceSub, reduceCtorEq, false_and, and_false, if_true, if_false, Bool.false_eq_true, Bool.not_true, Bool.not_false, decide_eq_true_eq, exists_false, or_false, false_or]
      rw [List.length_map, List.drop_length] at fol
      have fol : some st = P20.rdAll nameB ws ⟨[], []⟩ := fol
      have lenv : vs.length = st.st.length := by rw [← al.length, List.length_reverse]
      have fin : P20.readOf nameB ws = P20.endOf st := by
        unfold P20.readOf
        rw [← fol]
      refine ⟨_, len_L (SqL.of hst), rfl, ?_⟩
      by_cases c1 : vs.length = 1
      · rw [if_neg (by simp; omega)]
        obtain ⟨o, eo⟩ : ∃ o, st.st = [o] := List.length_eq_one_iff.mp (by omega)
        rw [eo] at al
        obtain ⟨v, rfl, rv⟩ : ∃ v, vs = [v] ∧ SE (fun a => a ≠ s ∧ a ≠ l) H' st.used o v := by
          cases al with
          | cons r1 t1 =>
            cases t1
            exact ⟨_, rfl, r1⟩
        refine ixL (SqL.of hst) 0 rfl ?_
        by_cases zv : v = .non
        · rw [if_pos zv]
          refine qn ?_ H' sm
          rw [fin]
          unfold P20.endOf
          rw [eo, rv.non.mp zv]
        · rw [if_neg zv]
          refine ixL (SqL.of hst) 0 rfl ⟨small (by decide), fun p hp => ?_⟩
          obtain ⟨T, rfl⟩ : ∃ r, o = some r := by
            cases o with
            | none => exact absurd (rv.non.mpr rfl) zv
            | some r => exact ⟨r, rfl⟩
          obtain ⟨pt, ept, lb, tb⟩ := rv
          have sp := same_new (o := .lst [V.ref l, v]) hp
          refine qs st.used T (by rw [fin]; unfold P20.endOf; rw [eo]) _ p l v pt (sm.trans sp) (sm.free hp) upd_same (sp _ _ hu) (fun z => by rw [← z, hu] at hp; cases hp) hl ept lb ?_
          obtain ⟨a, us, rfl, _, h1, h2⟩ := tb
          exact ⟨a, us, rfl, trivial, sp _ _ h1, L2.Paired.mapP h2 fun r v ⟨c, q, e, _, _, e1, e2⟩ => ⟨c, q, e, trivial, trivial, sp _ _ e1, sp _ _ e2⟩⟩
      · rw [if_pos (by simp; omega)]
        refine qn ?_ H' sm
        rw [fin]
        unfold P20.endOf
        match e : st.st with
        | [] => rfl
        | [a] => rw [e] at lenv; exact absurd lenv c1
        | a :: b :: r => cases a <;> rfl
end
end W20

set_option Elab.async false
set_option linter.all false
set_option maxRecDepth 100000
set_option maxHeartbeats 4000000
/-! NR20: _law_above, _law_node_right -/
namespace P20
open Tr
/-- p and q bear the same word: they are one place -/
theorem place_one {us : List Wd} {pl : List Nat} {lv : List Wd} (e : pl.map (fun p => us[p]?) = lv.map some) (nd : lv.Nodup) {p q : Nat} (hp : p ∈ pl) (hq : q ∈ pl) (h : us[p]? = us[q]?) : p = q := by
  obtain ⟨i, hi, ei⟩ := List.getElem_of_mem hp
  obtain ⟨j, hj, ej⟩ := List.getElem_of_mem hq
  have ll : pl.length = lv.length := by
    have := congrArg List.length e
    simpa using this
  have g : ∀ (k : Nat) (hk : k < pl.length), us[pl[k]]? = some (lv[k]'(by omega)) := fun k hk => by
    have h1 : (pl.map (fun p => us[p]?))[k]? = some (us[pl[k]]?) := by rw [List.getElem?_map, List.getElem?_eq_getElem hk]; rfl
    rw [e, List.getElem?_map, List.getElem?_eq_getElem (by omega)] at h1
    exact (Option.some.inj h1).symm
  have h1 := g i hi
  have h2 := g j hj
  rw [ei] at h1
  rw [ej] at h2
  rw [h1, h2] at h
  have := (List.getElem_inj nd).mp (Option.some.inj h)
  subst this
  rw [← ei, ← ej]
/-- the places outside tell the words outside -/
theorem places_out {us : List Wd} {t n : PT} (lt : Lab us t) (ln : Lab us n) (nd : (leaves t.er).Nodup) (sub : ∀ p ∈ n.pl, p ∈ t.pl) :
    (t.pl.filter fun p => decide (p ∉ n.pl)).map (fun p => us[p]?) = ((leaves t.er).filter fun u => decide (u ∉ leaves n.er)).map some := by
  have e := lt.words
  have en := ln.words
  have key : ∀ (pl : List Nat) (lv : List Wd), pl.map (fun p => us[p]?) = lv.map some → (∀ p ∈ pl, p ∈ t.pl) → (pl.filter fun p => decide (p ∉ n.pl)).map (fun p => us[p]?) = (lv.filter fun u => decide (u ∉ leaves n.er)).map some := by
    intro pl
    induction pl with
    | nil =>
      intro lv h _
      cases lv with
      | nil => rfl
      | cons a b => cases h
    | cons p r ih =>
      intro lv h hp
      cases lv with
      | nil => cases h
      | cons w lv =>
        rw [List.map_cons, List.map_cons, List.cons.injEq] at h
        have ih := ih lv h.2 fun q hq => hp q (List.mem_cons_of_mem _ hq)
        have iff1 : p ∈ n.pl ↔ w ∈ leaves n.er := by
          constructor
          · intro z
            obtain ⟨i, hi, ei⟩ := List.getElem_of_mem z
            have h1 : (n.pl.map (fun p => us[p]?))[i]? = some (us[p]?) := by rw [List.getElem?_map, List.getElem?_eq_getElem hi, ei]; rfl
            rw [en, h.1, List.getElem?_map] at h1
            obtain ⟨x, hx, ex⟩ := Option.map_eq_some_iff.mp h1
            cases ex
            exact List.mem_of_getElem? hx
          · intro z
            obtain ⟨i, hi, ei⟩ := List.getElem_of_mem z
            have ll : n.pl.length = (leaves n.er).length := by
              have := congrArg List.length en
              simpa using this
            have h1 : (n.pl.map (fun p => us[p]?))[i]? = some (some w) := by rw [en, List.getElem?_map, List.getElem?_eq_getElem hi, ei]; rfl
            rw [List.getElem?_map, List.getElem?_eq_getElem (by omega)] at h1
            have h2 : us[n.pl[i]'(by omega)]? = some w := Option.some.inj h1
            have hm : n.pl[i]'(by omega) ∈ n.pl := List.getElem_mem _
            have := place_one e nd (hp p List.mem_cons_self) (sub _ hm) (h.1.trans h2.symm)
            rw [this]
            exact hm
        by_cases c : p ∈ n.pl
        · rw [List.filter_cons_of_neg (by simp [c]), List.filter_cons_of_neg (by simp [iff1.mp c])]
          exact ih
        · rw [List.filter_cons_of_pos (by simp [c]), List.filter_cons_of_pos (by rw [decide_eq_true_eq]; exact fun z => c (iff1.mpr z)), List.map_cons, List.map_cons, ih, h.1]
  exact key _ _ e fun p hp => hp
theorem sub_pl : ∀ {t s : PT}, s ∈ t.subs → ∀ p ∈ s.pl, p ∈ t.pl
  | .leaf w q, s, hs, p, hp => by
    rw [List.mem_singleton.mp hs] at hp
    exact hp
  | .node l r, s, hs, p, hp => by
    rcases List.mem_append.mp hs with z | z
    · rcases List.mem_append.mp z with z | z
      · exact List.mem_append_left _ (sub_pl z p hp)
      · exact List.mem_append_right _ (sub_pl z p hp)
    · rw [List.mem_singleton.mp z] at hp
      exact hp
theorem sub_er {t s : PT} (h : s ∈ t.subs) : s.er ∈ nodes t.er := by
  rw [← subs_er]
  exact List.mem_map_of_mem h
/-- a node stands once in the table -/
theorem sub_idx {t : PT} (nd : (leaves t.er).Nodup) {i j : Nat} {a b : PT} (h1 : t.subs[i]? = some a) (h2 : t.subs[j]? = some b) (e : a.er = b.er) : i = j := by
  have n := nodes_nodup nd
  rw [← subs_er] at n
  have g1 : (t.subs.map PT.er)[i]? = some a.er := by rw [List.getElem?_map, h1]; rfl
  have g2 : (t.subs.map PT.er)[j]? = some a.er := by rw [List.getElem?_map, h2, e]; rfl
  obtain ⟨l1, e1⟩ := List.getElem?_eq_some_iff.mp g1
  obtain ⟨l2, e2⟩ := List.getElem?_eq_some_iff.mp g2
  exact (List.getElem_inj n).mp (e1.trans e2.symm)
end P20
namespace W20
open PySem PySem.Spec PyProof.Rows L2 Lay
open SX (S S_len S_cat S_tl)
open C8 (Cal Mak Met pe_c pe_mk pe_gc fnScope_by E0 sl_txt rSlX)
theorem key_eq {a b : P20.Tr} (ha : P20.Ok a) (hb : P20.Ok b) : keyS a = keyS b ↔ a = b := ⟨fun z => P20.spell_inj ha hb (SX.S_inj (Sum.inr.inj z)), fun z => by rw [z]⟩
theorem kids_ok {a b : P20.Tr} (h : P20.Ok (.node a b)) : P20.Ok a ∧ P20.Ok b := ⟨fun w hw => h w (List.mem_append_left _ hw), fun w hw => h w (List.mem_append_right _ hw)⟩
theorem abv_get {kvs : List (Key × V)} {n p : P20.Tr} (okn : P20.Ok n) (okp : P20.Ok p) : (P20.kid n p → valV (abv kvs p) (keyS n) = some (spV p)) ∧ (¬ P20.kid n p → valV (abv kvs p) (keyS n) = valV kvs (keyS n)) := by
  cases p with
  | leaf w => exact ⟨fun z => z.elim, fun _ => rfl⟩
  | node l r =>
    obtain ⟨ol, or⟩ := kids_ok okp
    unfold abv
    rw [valV_put, valV_put]
    by_cases c1 : n = r
    · exact ⟨fun _ => by rw [if_pos (by rw [c1])], fun z => absurd (.inr c1) z⟩
    · rw [if_neg fun z => c1 ((key_eq okn or).mp z)]
      by_cases c2 : n = l
      · exact ⟨fun _ => by rw [if_pos (by rw [c2])], fun z => absurd (.inl c2) z⟩
      · rw [if_neg fun z => c2 ((key_eq okn ol).mp z)]
        exact ⟨fun z => by rcases z with z | z; exact absurd z c2; exact absurd z c1, fun _ => rfl⟩
theorem abv_none {n : P20.Tr} (okn : P20.Ok n) : ∀ {ns : List P20.Tr} {kvs : List (Key × V)}, (∀ p ∈ ns, P20.Ok p ∧ ¬ P20.kid n p) → valV (ns.foldl abv kvs) (keyS n) = valV kvs (keyS n)
  | [], _, _ => rfl
  | p :: r, kvs, h => by
    rw [List.foldl_cons, abv_none okn fun q hq => h q (List.mem_cons_of_mem _ hq)]
    exact (abv_get okn (h p List.mem_cons_self).1).2 (h p List.mem_cons_self).2
theorem abv_some {n p : P20.Tr} (okn : P20.Ok n) (k : P20.kid n p) : ∀ {ns : List P20.Tr} {kvs : List (Key × V)}, (∀ q ∈ ns, P20.Ok q ∧ (P20.kid n q → q = p)) → p ∈ ns → valV (ns.foldl abv kvs) (keyS n) = some (spV p)
  | [], _, _, hp => by cases hp
  | q :: r, kvs, h, hp => by
    rw [List.foldl_cons]
    by_cases c : p ∈ r
    · exact abv_some okn k (fun x hx => h x (List.mem_cons_of_mem _ hx)) c
    · have e : p = q := by
        rcases List.mem_cons.mp hp with z | z
        · exact z
        · exact absurd z c
      subst e
      rw [abv_none okn fun x hx => ⟨(h x (List.mem_cons_of_mem _ hx)).1, fun z => c ((h x (List.mem_cons_of_mem _ hx)).2 z ▸ hx)⟩]
      exact (abv_get okn (h p List.mem_cons_self).1).1 k
/-- what stands above a node -/
theorem above_get {T n : P20.Tr} (ok : P20.Ok T) (nd : (P20.leaves T).Nodup) (hn : n ∈ P20.nodes T) : (∀ p ∈ P20.nodes T, P20.kid n p → valV (aboveK (P20.nodes T)) (keyS n) = some (spV p)) ∧ ((∀ p ∈ P20.nodes T, ¬ P20.kid n p) → valV (aboveK (P20.nodes T)) (keyS n) = none) := by
  have okn := P20.ok_sub ok hn
  refine ⟨fun p hp k => abv_some okn k (fun q hq => ⟨P20.ok_sub ok hq, fun z => P20.kid_one nd hq hp z k⟩) hp, fun h => ?_⟩
  unfold aboveK
  rw [abv_none okn fun p hp => ⟨P20.ok_sub ok hp, h p hp⟩]
  rfl
section
variable {P : Program} {w : World} {K : PySem.W.Frag} {mg : Str → Option Value} {base : Heap} {f : Addr} {fd : FuncData}
theorem sd58 : FnScope ["nodes", "at", "one"] ["nodes", "at"] (defScope (top 58)) := fnScope_by (by decide +kernel)
def spAbv : Sp := fun vs H Q _ => ∃ (X : Addr → Prop) (v : V) (t s : P20.PT) (k : Nat), vs = [v, .int ((k : Nat) : Int)] ∧ TabAt X H (P20.rows t) v ∧ t.subs[k]? = some s ∧ (P20.leaves t.er).Nodup ∧
  (∀ H' p, Same H H' → p ∈ P20.nodes t.er → P20.kid s.er p → Q (spV p) H') ∧ (∀ H', Same H H' → (∀ p ∈ P20.nodes t.er, ¬ P20.kid s.er p) → Q .non H')
theorem ok_abv (m : Mg K mg) (F : Fn K "_law_above" 58 f fd) (g : mg "_law_above" = some (.ref f)) : Cal P w K mg base 1 "_law_above" spAbv [] := by
  have sc := sd58
  refine calD F g sc (fun _ _ _ _ _ _ us hl => match us, hl with | [_, _], _ => rfl) ?_ fun cdv A outer s H vs Q E hr h => ?_
  · rintro vs H Q E ⟨X, v, t, s, k, rfl, _⟩
    rfl
  · obtain ⟨X, v, t, s0, k, rfl, ⟨a, us, rfl, _, ha, hrs⟩, hk, nd, qs, qn⟩ := h
    refine ⟨_, (pss_cons (ps_for pown rfl (pi_list (pv 0)) (pg_name (i := 2) sc.nd rfl (.inl rfl))
        (pss_one (ps_if (pt_cmpR op_in_seq (pv 1) (pe_tup (pa_cons (pe_ix ix_list (pv 2) pe_int (fun _ _ => rfl)) (pa_cons (pe_ix ix_list (pv 2) pe_int (fun _ _ => rfl)) pa_nil))) rfl)
          (pss_one (ps_ret (pe_ix ix_list (pv 2) pe_int (fun _ _ => rfl))))
          pss_nil)))
      (pss_one (ps_ret pe_non))), ?_⟩
    simp only [L2.start, cxOf, tRet, tAndV, tOrV, tNotV, tCB, tCons, tNil, tVar, tC, tOp, tUn, tTest, tB, tSeq, tAsg, tNot, gName, tNext, tCall, tChain, rI, rI0, rEq, rNe, rGcd, rU, tM1, tM0, tSl, tPart, tNoPart, gTup, gCons, gNil, gSub, tTup, tLst, tPar, L2.rI, List.map_cons, List.map_nil, List.length_cons, List.length_nil, List.cons_append, List.nil_append, List.append_nil, List.getElem?_cons_zero, List.getElem?_cons_succ, List.set_cons_zero, List.set_cons_succ, Option.some.injEq, exists_eq_left, exists_eq_left', exists_eq_right, exists_and_left, exists_and_right, List.cons.injEq, and_true, true_and, V.int.injEq, V.str.injEq, V.bl.injEq, V.ref.injEq, List.replicate, Nat.reduceAdd, Nat.reduceSub, reduceCtorEq, false_and, and_false, if_true, if_false, Bool.false_eq_true, Bool.not_true, Bool.not_false, decide_eq_true_eq, exists_false, or_false, false_or]
    refine for_list_at (l := a) (xs := us) (fun R k => ⟨_, rfl, k⟩) (SqL.of ha) ⟨fun i σ' H' => ∃ y, σ' = [some (.ref a), some (.int ((k : Nat) : Int)), y] ∧ Same H H' ∧ ∀ j q, j < i → t.subs[j]? = some q → ¬ P20.kid s0.er q.er, ⟨none, rfl, Same.refl H, fun j q hj => absurd hj (Nat.not_lt_zero _)⟩, fun i σ' H' hi h => ?_, ?_, ?_⟩
    · obtain ⟨_, _, sm, _⟩ := h
      exact SqL.of (sm _ _ ha)
    · rintro i x σ' H' hx ⟨y, rfl, sm, no⟩
      obtain ⟨r, hr0, c, p, rfl, _, _, hc, hp⟩ := paired_at hrs hx
      have li : i < t.subs.length := by
        have := (List.getElem?_eq_some_iff.mp hr0).1
        rw [P20.rows_len] at this
        exact this
      have hs : t.subs[i]? = some t.subs[i] := List.getElem?_eq_getElem _
      generalize t.subs[i] = q at hs
      have ro := P20.rows_of t i q r hs hr0
      have hc' := sm _ _ hc
      simp only [L2.start, cxOf, tRet, tAndV, tOrV, tNotV, tCB, tCons, tNil, tVar, tC, tOp, tUn, tTest, tB, tIf, tIfS, tSeq, tAsg, tAnd, tOr, tNot, gName, tNext, tCall, tChain, rI, rI0, rEq, rNe, rGcd, rU, tM1, tM0, tSl, tPart, tNoPart, gTup, gCons, gNil, gSub, tTup, tLst, tPar, L2.rI, List.map_cons, List.map_nil, List.length_cons, List.length_nil, List.cons_append, List.nil_append, List.append_nil, List.getElem?_cons_zero, List.getElem?_cons_succ, List.set_cons_zero, List.set_cons_succ, Option.some.injEq, exists_eq_left, exists_eq_left', exists_eq_right, exists_and_left, exists_and_right, List.cons.injEq, and_true, true_and, V.int.injEq, V.str.injEq, V.bl.injEq, V.ref.injEq, List.replicate, Nat.reduceAdd, Nat.reduceSub, reduceCtorEq, false_and, and_false, if_true, if_false, Bool.false_eq_true, Bool.not_true, Bool.not_false, decide_eq_true_eq, exists_false, or_false, false_or]
      refine ixL (SqL.of hc') 2 rfl (ixL (SqL.of hc') 3 rfl ⟨small (by decide), fun tp htp => ⟨tp, _, rfl, .inr (sqT_of upd_same), rfl, rfl, ?_⟩⟩)
      rw [if_neg (by decide)]
      have st := same_new (o := .tup [V.int r.li, V.int r.ri]) htp
      have ei : inV (V.int ((k : Nat) : Int)) [V.int r.li, V.int r.ri] = decide (r.li = k ∨ r.ri = k) := by
        unfold inV
        rw [Bool.eq_iff_iff]
        simp [eqV]
      rw [ei]
      have kd : (r.li = (k : Int) ∨ r.ri = (k : Int)) ↔ P20.kid s0.er q.er := by
        have r3 := ro.2.2
        cases q with
        | leaf w p =>
          obtain ⟨h1, h2⟩ := r3
          constructor
          · intro z
            omega
          · intro z
            exact z.elim
        | node l r' =>
          obtain ⟨i1, j1, h1, h2, h3, h4⟩ := r3
          constructor
          · rintro (z | z)
            · rw [h1] at z
              have : i1 = k := by omega
              subst this
              rw [hk] at h3
              cases h3
              exact .inl rfl
            · rw [h2] at z
              have : j1 = k := by omega
              subst this
              rw [hk] at h4
              cases h4
              exact .inr rfl
          · rintro (z | z)
            · left
              rw [h1, P20.sub_idx nd h3 hk z.symm]
            · right
              rw [h2, P20.sub_idx nd h4 hk z.symm]
      refine ⟨_, rfl, ?_⟩
      by_cases c1 : P20.kid s0.er q.er
      · rw [if_pos (decide_eq_true (kd.mpr c1))]
        refine ixL (SqL.of (st _ _ hc')) 0 rfl ?_
        rw [ro.1]
        exact qs _ q.er (sm.trans st) (P20.sub_er (List.mem_of_getElem? hs)) c1
      · rw [if_neg (by rw [decide_eq_true_eq]; exact fun z => c1 (kd.mp z))]
        refine ⟨sm.trans st, fun j q' hj hq' => ?_⟩
        by_cases ej : j = i
        · subst ej
          rw [hs] at hq'
          cases hq'
          exact c1
        · exact no j q' (by omega) hq'
    · rintro σ' H' ⟨y, rfl, sm, no⟩
      simp only [L2.start, cxOf, tRet, tAndV, tOrV, tNotV, tCB, tCons, tNil, tVar, tC, tOp, tUn, tTest, tB, tIf, tIfS, tSeq, tAsg, tAnd, tOr, tNot, gName, tNext, tCall, tChain, rI, rI0, rEq, rNe, rGcd, rU, tM1, tM0, tSl, tPart, tNoPart, gTup, gCons, gNil, gSub, tTup, tLst, tPar, L2.rI, List.map_cons, List.map_nil, List.length_cons, List.length_nil, List.cons_append, List.nil_append, List.append_nil, List.getElem?_cons_zero, List.getElem?_cons_succ, List.set_cons_zero, List.set_cons_succ, Option.some.injEq, exists_eq_left, exists_eq_left', exists_eq_right, exists_and_left, exists_and_right, List.cons.injEq, and_true, true_and, V.int.injEq, V.str.injEq, V.bl.injEq, V.ref.injEq, List.replicate, Nat.reduceAdd, Nat.reduceSub, reduceCtorEq, false_and, and_false, if_true, if_false, Bool.false_eq_true, Bool.not_true, Bool.not_false, decide_eq_true_eq, exists_false, or_false, false_or]
      refine qn H' sm fun p hp z => ?_
      rw [← P20.subs_er] at hp
      obtain ⟨q, hq, rfl⟩ := List.mem_map.mp hp
      obtain ⟨j, hj, ej⟩ := List.getElem_of_mem hq
      have lu : us.length = t.subs.length := by
        rw [← P20.rows_len]
        exact hrs.length.symm
      exact no j q (by omega) (by rw [List.getElem?_eq_getElem hj, ej]) z
end
end W20

set_option Elab.async false
set_option linter.all false
set_option maxRecDepth 100000
set_option maxHeartbeats 4000000
/-! NT20: _law_node_right -/
namespace W20
open PySem PySem.Spec PyProof.Rows L2 Lay
open SX (S S_len S_cat S_tl)
open C8 (Cal Mak Met pe_c pe_mk pe_gc fnScope_by E0 sl_txt rSlX)
/-- what a drawn tree is like -/
structure Fine (T : P20.Tr) : Prop where
  good : P20.Good nameB T
  nd : (P20.leaves T).Nodup
  few : (P20.leaves T).length ≤ 24
theorem Fine.ok {T : P20.Tr} (h : Fine T) : P20.Ok T := h.good.ok
theorem Fine.len {T : P20.Tr} (h : Fine T) : (P20.spell T).length ≤ 300 := by
  have := P20.spell_len (k := 8) fun u hu => name_len (h.good u hu).1
  have := h.few
  omega
theorem Fine.nodes {T : P20.Tr} (h : Fine T) : (P20.nodes T).length ≤ 47 := by
  have := P20.nodes_len T
  have := h.few
  omega
theorem kbn_above {K : PySem.W.Frag} {f : Addr} {fd : FuncData} (F : Mt K "above" "Tree.above" 33 4 f fd) : KBn K fd ["self", "node"] 1 ["node"] (fun us ws => us ++ ws) (fun vs zs => vs ++ zs) := by
  obtain ⟨oc, od, dV, kV, doc, pm, an, cdv, ct, osl, rfl, lk, hcd, hD, hK⟩ := F.ex
  rcases hD with ⟨_, rfl⟩ | ⟨e, _⟩
  · refine ⟨fun s us ws _ l1 l2 => ?_, fun r1 r2 => r1.append r2⟩
    match us, ws, l1, l2 with
    | [a], [b], _, _ => exact .of_eq rfl
  · exact absurd rfl e
theorem lk_seq {n : Nat} {H : Hp} {a b : Addr} {zs : List V} (hab : (H a = some (.lst zs) ∧ H b = some (.lst zs)) ∨ (H a = some (.tup zs) ∧ H b = some (.tup zs))) (h : ∀ z ∈ zs, ∃ t, z = .str t) (hl : zs.length ≤ 100000) : Lk (n + 2) H (.ref a) (.ref b) :=
  .inr ⟨a, b, _, _, rfl, rfl, hab, rfl, hl, fun i u v hu hv => by
    rw [hu] at hv
    cases hv
    obtain ⟨t, rfl⟩ := h u (List.mem_of_getElem? hu)
    exact lk_str⟩
theorem wV_str {ws : List P20.Wd} : ∀ z ∈ wV ws, ∃ t, z = .str t := fun z hz => by
  obtain ⟨u, _, rfl⟩ := List.mem_map.mp hz
  exact ⟨_, rfl⟩
theorem rin_ints {K : PySem.W.Frag} {H : Hp} {l : Addr} {p : Nat} {ps : List Nat} {R : VK} (h : H l = some (.lst (plV ps))) (k : R (.bl (!decide (p ∈ ps))) H) : rIn K true (.int ((p : Nat) : Int)) (.ref l) H R := by
  refine ⟨l, _, rfl, .inl (SqL.of h), rfl, ?_, ?_⟩
  · rw [List.all_eq_true]
    intro v hv
    obtain ⟨w, _, rfl⟩ := List.mem_map.mp hv
    rfl
  · rw [if_pos rfl]
    have e : inV (V.int ((p : Nat) : Int)) (plV ps) = decide (p ∈ ps) := by
      clear h k
      induction ps with
      | nil => rfl
      | cons q r ih =>
        unfold inV at ih ⊢
        have e1 : plV (q :: r) = V.int ((q : Nat) : Int) :: plV r := rfl
        rw [e1, List.any_cons, ih]
        have e : eqV (V.int ((q : Nat) : Int)) (V.int ((p : Nat) : Int)) = decide (p = q) := by
          show (((q : Nat) : Int) == ((p : Nat) : Int)) = _
          rw [Bool.eq_iff_iff, beq_iff_eq, decide_eq_true_eq]
          omega
        rw [e, Bool.eq_iff_iff, Bool.or_eq_true, decide_eq_true_eq, decide_eq_true_eq, decide_eq_true_eq, List.mem_cons]
    rw [e]
    exact k
section
variable {P : Program} {w : World} {K : PySem.W.Frag} {mg : Str → Option Value} {base : Heap} {f fA CN : Addr} {fd fdA : FuncData}
theorem sd59 : FnScope ["made", "nodes", "land", "at", "one", "lot", "rest", "p", "halves", "told"] ["made", "nodes", "land", "at"] (defScope (top 59)) := fnScope_by (by decide +kernel)
def spNodeR (C : Addr) : Sp := fun vs H Q _ => ∃ (X : Addr → Prop) (x a : Addr) (v : V) (t : P20.PT) (us : List P20.Wd) (k : Nat), vs = [.ref x, v, .ref a, .int ((k : Nat) : Int)] ∧ TreeAt C H x t.er ∧ Fine t.er ∧ TabAt X H (P20.rows t) v ∧ LandAt H a us ∧ P20.Lab us t ∧ k < t.subs.length ∧
  ∀ H', Same H H' → Q (.bl true) H'
theorem ok_noder (m : Mg K mg) (tc : Tc K mg) (c__law_lot_words : Cal P w K mg base 1 "_law_lot_words" spLotW []) (c__law_above : Cal P w K mg base 1 "_law_above" spAbv []) (c__law_like : Cal P w K mg base 4 "_law_like" (spLike 4) [])
    (c_lot : MetN P w K mg base 3 (cT K) "lot" (spLot (cT K) CN)) (c_rest : MetN P w K mg base 4 (cT K) "rest" (spRest (cT K) CN)) (c_halves : MetN P w K mg base 3 (cT K) "halves" (spHalves (cT K) CN))
    (meA : Meth K (cT K) "above" fA) (FA : FnOk P w K mg base (L2N.CX P w) 3 fA fdA ["self", "node"] (spAbove (cT K) CN)) (kbA : KBn K fdA ["self", "node"] 1 ["node"] (fun us ws => us ++ ws) (fun vs zs => vs ++ zs))
    (F : Fn K "_law_node_right" 59 f fd) (g : mg "_law_node_right" = some (.ref f)) : Cal P w K mg base 5 "_law_node_right" (spNodeR (cT K)) [] := by
  have sc := sd59
  refine calD F g sc (fun _ _ _ _ _ _ us hl => match us, hl with | [_, _, _, _], _ => rfl) ?_ fun cdv A outer s H vs Q E hr h => ?_
  · rintro vs H Q E ⟨X, x, a, v, t, us, k, rfl, _⟩
    rfl
  · obtain ⟨X, x, a, v, t, us, k, rfl, tr, fine, tab, ld, lab, hk, q⟩ := h
    have hxA : ∀ {X : Cx} (e1 : X.prog = P) (e2 : X.w = w), Passes (L2N.CX P w) X C8.E0 := fun e1 e2 _ _ _ _ _ _ _ c => by
      obtain ⟨_, _, _, _, _, _, _, _, _, _, _, _, z⟩ := c
      exact z.elim
    refine ⟨_, (pss_cons (ps_set (i := 4) sc.nd rfl (.inr rfl) (pe_ix ix_list (pv 1) (pv 3) (fun _ _ => rfl)))
      (pss_cons (ps_set (i := 5) sc.nd rfl (.inl rfl) (pe_c c__law_lot_words hr (by omega) (by rfl) (pa_cons (pv 2) (pa_cons (pe_ix ix_list (pv 4) pe_int (fun _ _ => rfl)) pa_nil))))
      (pss_cons (ps_set (i := 6) sc.nd rfl (.inl rfl) (pe_c c__law_lot_words hr (by omega) (by rfl) (pa_cons (pv 2) (pa_cons (pe_lc (own := [("p", 7)]) (g := gName 7) (by rfl) sc.nd (pi_list (pe_ix ix_list (pe_ix ix_list (pv 1) (pe_un un_neg pe_int) (fun _ _ => rfl)) pe_int (fun _ _ => rfl))) (blkOk_by (own := [("p", 7)]) (N := ["made", "nodes", "land", "at", "one", "lot", "rest", "p", "halves", "told"]) (sc := defScope (top 59)) (by decide +kernel)) (fun _ _ _ _ _ => pg_name (i := 7) sc.nd rfl (.inl rfl)) (fun _ _ _ _ _ => pts_one (pt_cmpR (show OpR _ (compareOp .NotIn) (rIn K true) from op_notIn_seq) (pv 7) (pe_ix (show IxR _ (rIxL K) from ix_list) (pv 4) pe_int (fun _ _ => rfl)) rfl)) (fun _ _ _ _ _ => pv 7)) pa_nil))))
      (pss_cons (ps_set (i := 8) sc.nd rfl (.inl rfl) (pe_ifExp (pt_cmpR op_lt (pe_ix ix_list (pv 4) pe_int (fun _ _ => rfl)) pe_int (nomark _)) pe_non (pe_tup (pa_cons (pe_ix ix_list (pe_ix ix_list (pv 1) (pe_ix ix_list (pv 4) pe_int (fun _ _ => rfl)) (fun _ _ => rfl)) pe_int (fun _ _ => rfl)) (pa_cons (pe_ix ix_list (pe_ix ix_list (pv 1) (pe_ix ix_list (pv 4) pe_int (fun _ _ => rfl)) (fun _ _ => rfl)) pe_int (fun _ _ => rfl)) pa_nil)))))
      (pss_cons (ps_set (i := 9) sc.nd rfl (.inl rfl) (pe_lst (pa_cons (pe_mtNo c_lot hr (by omega) (pv 0) (pa_cons (pe_ix ix_list (pv 4) pe_int (fun _ _ => rfl)) pa_nil)) (pa_cons (pe_mtNo c_rest hr (by omega) (pv 0) (pa_cons (pe_ix ix_list (pv 4) pe_int (fun _ _ => rfl)) pa_nil)) (pa_cons (pe_mtNo c_halves hr (by omega) (pv 0) (pa_cons (pe_ix ix_list (pv 4) pe_int (fun _ _ => rfl)) pa_nil)) (pa_cons (pe_mtK (E := C8.E0) (pv 0) tc.cls meA FA (hr.mono (by omega)) kbA (hxA rfl rfl) (pk_cons (pe_ix ix_list (pv 4) pe_int (fun _ _ => rfl)) pk_nil)) pa_nil))))))
      (pss_one (ps_ret (pe_c c__law_like hr (by omega) (by rfl) (pa_cons (pv 9) (pa_cons (pe_lst (pa_cons (pv 5) (pa_cons (pv 6) (pa_cons (pv 8) (pa_cons (pe_c c__law_above hr (by omega) (by rfl) (pa_cons (pv 1) (pa_cons (pv 3) pa_nil))) pa_nil))))) pa_nil)))))))))), ?_⟩
    have szl := sizeLine_eq
    obtain ⟨na, nv, rfl, xna, hna, hrs⟩ := id tab
    have hs : t.subs[k]? = some t.subs[k] := List.getElem?_eq_getElem _
    generalize t.subs[k] = sn at hs
    have ms := List.mem_of_getElem? hs
    have lu : (P20.rows t).length = nv.length := hrs.length
    have lr := P20.rows_len t
    obtain ⟨r, hr0⟩ : ∃ r, (P20.rows t)[k]? = some r := ⟨_, List.getElem?_eq_getElem (by omega)⟩
    obtain ⟨rv, hrv, rc, rp, rfl, _, _, hrc, hrp⟩ := paired_at' hrs hr0
    have ro := P20.rows_of t k sn r hs hr0
    rw [ro.1] at hrc
    have nm := P20.sub_er ms
    have lf := P20.rows_few t
    have lpl := P20.leaves_pl t
    have few := fine.few
    refine seq_cut (fun σ' H' => σ' = [some (.ref x), some (.ref na), some (.ref a), some (.int ((k : Nat) : Int)), some (.ref rc), none, none, none, none, none] ∧ H' = H) (fun D' hrt hn => ?_) ?_
    · simp only [L2.start, cxOf, tRet, tAndV, tOrV, tNotV, tCB, tCons, tNil, tVar, tC, tOp, tUn, tTest, tB, tIf, tIfS, tSeq, tAsg, tAnd, tOr, tNot, gName, tNext, tCall, tChain, rI, rI0, rEq, rNe, rGcd, rU, tM1, tM0, tSl, tPart, tNoPart, gTup, gCons, gNil, gSub, tTup, tLst, tPar, L2.rI, List.map_cons, List.map_nil, List.length_cons, List.length_nil, List.cons_append, List.nil_append, List.append_nil, List.getElem?_cons_zero, List.getElem?_cons_succ, List.set_cons_zero, List.set_cons_succ, Option.some.injEq, exists_eq_left, exists_eq_left', exists_eq_right, exists_and_left, exists_and_right, List.cons.injEq, and_true, true_and, V.int.injEq, V.str.injEq, V.bl.injEq, V.ref.injEq, List.replicate, Nat.reduceAdd, Nat.reduceSub, reduceCtorEq, false_and, and_false, if_true, if_false, Bool.false_eq_true, Bool.not_true, Bool.not_false, decide_eq_true_eq, exists_false, or_false, false_or]
      exact ixL (SqL.of hna) k hrv (hn _ _ ⟨rfl, rfl⟩)
    rintro σ' H1 ⟨rfl, rfl⟩
    have labn := lab.sub ms
    have lpn := P20.leaves_pl sn
    have subn := P20.sub_len nm
    refine seq_cut (fun σ' H' => ∃ t1, σ' = [some (.ref x), some (.ref na), some (.ref a), some (.int ((k : Nat) : Int)), some (.ref rc), some (.ref t1), none, none, none, none] ∧ Same H1 H' ∧ H' t1 = some (.tup (wV (P20.leaves sn.er)))) (fun D' hrt hn => ?_) ?_
    · simp only [L2.start, cxOf, tRet, tAndV, tOrV, tNotV, tCB, tCons, tNil, tVar, tC, tOp, tUn, tTest, tB, tIf, tIfS, tSeq, tAsg, tAnd, tOr, tNot, gName, tNext, tCall, tChain, rI, rI0, rEq, rNe, rGcd, rU, tM1, tM0, tSl, tPart, tNoPart, gTup, gCons, gNil, gSub, tTup, tLst, tPar, L2.rI, List.map_cons, List.map_nil, List.length_cons, List.length_nil, List.cons_append, List.nil_append, List.append_nil, List.getElem?_cons_zero, List.getElem?_cons_succ, List.set_cons_zero, List.set_cons_succ, Option.some.injEq, exists_eq_left, exists_eq_left', exists_eq_right, exists_and_left, exists_and_right, List.cons.injEq, and_true, true_and, V.int.injEq, V.str.injEq, V.bl.injEq, V.ref.injEq, List.replicate, Nat.reduceAdd, Nat.reduceSub, reduceCtorEq, false_and, and_false, if_true, if_false, Bool.false_eq_true, Bool.not_true, Bool.not_false, decide_eq_true_eq, exists_false, or_false, false_or]
      exact ixL (SqL.of hrc) 1 rfl ⟨a, rp, us, r.pl, _, rfl, ld, hrp, by rw [ro.2.1]; omega, by rw [ro.2.1]; exact labn.words, fun H' t1 s1 n1 e1 => hn _ _ ⟨t1, rfl, s1, e1⟩⟩
    rintro σ' H2 ⟨t1, rfl, s2, ht1⟩
    refine seq_cut (fun σ' H' => ∃ t2, σ' = [some (.ref x), some (.ref na), some (.ref a), some (.int ((k : Nat) : Int)), some (.ref rc), some (.ref t1), some (.ref t2), none, none, none] ∧ Same H2 H' ∧ H' t2 = some (.tup (wV ((P20.leaves t.er).filter fun u => decide (u ∉ P20.leaves sn.er))))) (fun D' hrt hn => ?_) ?_
    · simp only [L2.start, cxOf, tRet, tAndV, tOrV, tNotV, tCB, tCons, tNil, tVar, tC, tOp, tUn, tTest, tB, tSeq, tAsg, tNot, gName, tNext, tCall, tChain, rI, rI0, rEq, rNe, rGcd, rU, tM1, tM0, tSl, tPart, tNoPart, gTup, gCons, gNil, gSub, tTup, tLst, tPar, L2.rI, List.map_cons, List.map_nil, List.length_cons, List.length_nil, List.cons_append, List.nil_append, List.append_nil, List.getElem?_cons_zero, List.getElem?_cons_succ, List.set_cons_zero, List.set_cons_succ, Option.some.injEq, exists_eq_left, exists_eq_left', exists_eq_right, exists_and_left, exists_and_right, List.cons.injEq, and_true, true_and, V.int.injEq, V.str.injEq, V.bl.injEq, V.ref.injEq, List.replicate, Nat.reduceAdd, Nat.reduceSub, reduceCtorEq, false_and, and_false, if_true, if_false, Bool.false_eq_true, Bool.not_true, Bool.not_false, decide_eq_true_eq, exists_false, or_false, false_or]
      obtain ⟨li, lj, elast⟩ := P20.rows_last t
      obtain ⟨lv, hlv, lc, lp, rfl, _, _, hlc, hlp⟩ : ∃ lv, nv.getLast? = some lv ∧ RowAt X H1 ⟨P20.spell t.er, t.pl, li, lj⟩ lv := by
        rw [List.getLast?_eq_getElem?] at elast ⊢
        rw [← lu]
        exact paired_at' hrs elast
      have hna2 := s2 _ _ hna
      have hlc2 := s2 _ _ hlc
      have hlp2 := s2 _ _ hlp
      refine Lay.lc_list (K := K) (v := 7) (l := lp) (xs := plV t.pl) (fun R h => ?_) (SqL.of hlp2) (fun x => rfl) fun D hD => ⟨fun i H' => Same H2 H' ∧ H' D = some (.lst (plV ((t.pl.take i).filter fun p => decide (p ∉ sn.pl)))), ⟨same_new hD, upd_same⟩, fun i H' hi h => SqL.of (h.1 _ _ hlp2), fun i z H' hz ⟨sH, hDD⟩ => ?_, fun H' ⟨sH, hDD⟩ => ?_⟩
      · simp only [L2.start, cxOf, tRet, tAndV, tOrV, tNotV, tCB, tCons, tNil, tVar, tC, tOp, tUn, tTest, tB, tIf, tIfS, tSeq, tAsg, tAnd, tOr, tNot, gName, tNext, tCall, tChain, rI, rI0, rEq, rNe, rGcd, rU, tM1, tM0, tSl, tPart, tNoPart, gTup, gCons, gNil, gSub, tTup, tLst, tPar, L2.rI, List.map_cons, List.map_nil, List.length_cons, List.length_nil, List.cons_append, List.nil_append, List.append_nil, List.getElem?_cons_zero, List.getElem?_cons_succ, List.set_cons_zero, List.set_cons_succ, Option.some.injEq, exists_eq_left, exists_eq_left', exists_eq_right, exists_and_left, exists_and_right, List.cons.injEq, and_true, true_and, V.int.injEq, V.str.injEq, V.bl.injEq, V.ref.injEq, List.replicate, Nat.reduceAdd, Nat.reduceSub, reduceCtorEq, false_and, and_false, if_true, if_false, Bool.false_eq_true, Bool.not_true, Bool.not_false, decide_eq_true_eq, exists_false, or_false, false_or]
        exact ⟨na, nv, -1, _, rfl, rfl, SqL.of hna2, at_last hlv, ixL (SqL.of hlc2) 1 rfl h⟩
      · rw [List.getElem?_map] at hz
        obtain ⟨p, hp, rfl⟩ := Option.map_eq_some_iff.mp hz
        have lip : i < t.pl.length := (List.getElem?_eq_some_iff.mp hp).1
        have tk : t.pl.take (i + 1) = t.pl.take i ++ [p] := by rw [List.take_succ, hp]; rfl
        have hrp' : H' rp = some (.lst (plV sn.pl)) := by
          rw [← ro.2.1]
          exact sH _ _ (s2 _ _ hrp)
        have fl := List.length_filter_le (fun p => decide (p ∉ sn.pl)) (t.pl.take i)
        rw [List.length_take] at fl
        unfold tTest tOp tVar tC
        refine ⟨_, rfl, _, rfl, ixL (SqL.of (sH _ _ (s2 _ _ hrc))) 1 rfl (rin_ints hrp' ⟨_, rfl, ?_⟩)⟩
        dsimp only
        by_cases c : p ∈ sn.pl
        · rw [if_neg (by simp [c])]
          refine ⟨sH, ?_⟩
          rw [hDD, tk, List.filter_append]
          simp [c]
        · rw [if_pos (by simp [c])]
          refine ⟨_, rfl, _, hDD, by rw [List.length_map]; omega, fun b o hb => ?_, ?_⟩
          · rw [upd_ne (ne_of_none hb hD)]
            exact sH _ _ hb
          · rw [upd_same, tk, List.filter_append]
            simp [c]
      · rw [List.length_map, List.take_length] at hDD
        have fl := List.length_filter_le (fun p => decide (p ∉ sn.pl)) t.pl
        exact ⟨a, D, us, _, _, rfl, ld.same (s2.trans sH), hDD, by omega, P20.places_out lab labn fine.nd (P20.sub_pl ms), fun H3 t2 s3 n3 e3 => hn _ _ ⟨t2, rfl, Same.trans sH s3, e3⟩⟩
    rintro σ' H3 ⟨t2, rfl, s3, ht2⟩
    have s13 := s2.trans s3
    refine seq_cut (fun σ' H' => ∃ z, σ' = [some (.ref x), some (.ref na), some (.ref a), some (.int ((k : Nat) : Int)), some (.ref rc), some (.ref t1), some (.ref t2), none, some z, none] ∧ Same H3 H' ∧ HalfOf H' sn.er z) (fun D' hrt hn => ?_) ?_
    · simp only [L2.start, cxOf, tRet, tAndV, tOrV, tNotV, tCB, tCons, tNil, tVar, tC, tOp, tUn, tTest, tB, tIf, tIfS, tSeq, tAsg, tAnd, tOr, tNot, gName, tNext, tCall, tChain, rI, rI0, rEq, rNe, rGcd, rU, tM1, tM0, tSl, tPart, tNoPart, gTup, gCons, gNil, gSub, tTup, tLst, tPar, L2.rI, List.map_cons, List.map_nil, List.length_cons, List.length_nil, List.cons_append, List.nil_append, List.append_nil, List.getElem?_cons_zero, List.getElem?_cons_succ, List.set_cons_zero, List.set_cons_succ, Option.some.injEq, exists_eq_left, exists_eq_left', exists_eq_right, exists_and_left, exists_and_right, List.cons.injEq, and_true, true_and, V.int.injEq, V.str.injEq, V.bl.injEq, V.ref.injEq, List.replicate, Nat.reduceAdd, Nat.reduceSub, reduceCtorEq, false_and, and_false, if_true, if_false, Bool.false_eq_true, Bool.not_true, Bool.not_false, decide_eq_true_eq, exists_false, or_false, false_or]
      have hrc3 := s13 _ _ hrc
      have hna3 := s13 _ _ hna
      refine ixL (SqL.of hrc3) 2 rfl ⟨_, rfl, ?_⟩
      have r3 := ro.2.2
      cases sn with
      | leaf w p =>
        rw [if_pos (by rw [r3.1]; decide)]
        exact hn _ _ ⟨_, rfl, Same.refl _, rfl⟩
      | node l r' =>
        obtain ⟨i, j, h1, h2, h3, h4⟩ := r3
        rw [if_neg (by rw [h1]; omega)]
        have row : ∀ (i : Nat) (s' : P20.PT), t.subs[i]? = some s' → ∀ {R : VK} {G : Hp}, Same H3 G → R (.str (S (P20.spell s'.er))) G → rIxL K (.ref na) (.int ((i : Nat) : Int)) G fun x H => rIxL K x (.int 0) H R := fun i s' hi {R G} sg kk => by
          obtain ⟨q, hq⟩ : ∃ q, (P20.rows t)[i]? = some q := ⟨_, List.getElem?_eq_getElem (by have := (List.getElem?_eq_some_iff.mp hi).1; omega)⟩
          obtain ⟨qv, hqv, qc, qp, rfl, _, _, hqc, hqp⟩ := paired_at' hrs hq
          have e := (P20.rows_of t i s' q hi hq).1
          exact ixL (SqL.of (sg _ _ hna3)) i hqv (ixL (SqL.of (sg _ _ (s13 _ _ hqc))) 0 (by rw [e]; rfl) kk)
        rw [h1, h2] at hrc3
        refine ixL (SqL.of hrc3) 2 rfl (row i l h3 (Same.refl _) (ixL (SqL.of hrc3) 3 rfl (row j r' h4 (Same.refl _) ⟨small (by decide), fun p hp => hn _ _ ⟨_, rfl, same_new hp, p, rfl, upd_same⟩⟩)))
    rintro σ' H4 ⟨z, rfl, s4, hz⟩
    have s14 := s13.trans s4
    refine seq_cut (fun σ' H' => ∃ tl t1' t2' z' ab, σ' = [some (.ref x), some (.ref na), some (.ref a), some (.int ((k : Nat) : Int)), some (.ref rc), some (.ref t1), some (.ref t2), none, some z, some (.ref tl)] ∧ Same H4 H' ∧ H' tl = some (.lst [.ref t1', .ref t2', z', ab]) ∧ H' t1' = some (.tup (wV (P20.leaves sn.er))) ∧ H' t2' = some (.tup (wV ((P20.leaves t.er).filter fun u => decide (u ∉ P20.leaves sn.er)))) ∧ HalfOf H' sn.er z' ∧ ab = (valV (aboveK (P20.nodes t.er)) (keyS sn.er)).getD .non) (fun D' hrt hn => ?_) ?_
    · simp only [L2.start, cxOf, tRet, tAndV, tOrV, tNotV, tCB, tCons, tNil, tVar, tC, tOp, tUn, tTest, tB, tIf, tIfS, tSeq, tAsg, tAnd, tOr, tNot, gName, tNext, tCall, tChain, rI, rI0, rEq, rNe, rGcd, rU, tM1, tM0, tSl, tPart, tNoPart, gTup, gCons, gNil, gSub, tTup, tLst, tPar, L2.rI, List.map_cons, List.map_nil, List.length_cons, List.length_nil, List.cons_append, List.nil_append, List.append_nil, List.getElem?_cons_zero, List.getElem?_cons_succ, List.set_cons_zero, List.set_cons_succ, Option.some.injEq, exists_eq_left, exists_eq_left', exists_eq_right, exists_and_left, exists_and_right, List.cons.injEq, and_true, true_and, V.int.injEq, V.str.injEq, V.bl.injEq, V.ref.injEq, List.replicate, Nat.reduceAdd, Nat.reduceSub, reduceCtorEq, false_and, and_false, if_true, if_false, Bool.false_eq_true, Bool.not_true, Bool.not_false, decide_eq_true_eq, exists_false, or_false, false_or, tMethN, tMethK]
      have tr4 := tr.same s14
      have hrc4 := s14 _ _ hrc
      obtain ⟨dx, lv, nn, d, lo, ab, hx, _⟩ := id tr4
      refine ⟨_, _, hx, rfl, ixL (SqL.of hrc4) 0 rfl ⟨x, t.er, _, rfl, tr4, fine.ok, fine.nd, .inl ⟨sn.er, nm, rfl, fun t1' ht1' => ?_⟩⟩⟩
      refine ⟨_, _, hx, rfl, ixL (SqL.of hrc4) 0 rfl ⟨x, t.er, _, rfl, tr4, fine.ok, fine.nd, few, .inl ⟨sn.er, nm, rfl, fun G1 t2' sg1 n1 ht2' => ?_⟩⟩⟩
      have tr5 := tr4.same sg1
      refine ⟨_, _, sg1 _ _ hx, rfl, ixL (SqL.of (sg1 _ _ hrc4)) 0 rfl ⟨x, t.er, _, rfl, tr5, fine.ok, fine.nd, .inl ⟨sn.er, nm, rfl, fun z' hz' => ?_⟩⟩⟩
      refine ⟨_, _, sg1 _ _ hx, rfl, ixL (SqL.of (sg1 _ _ hrc4)) 0 rfl ⟨x, t.er, _, rfl, tr5, fine.ok, fine.nd, .inl ⟨sn.er, nm, rfl, ?_⟩⟩⟩
      refine ⟨small (by decide), fun p hp => ?_⟩
      have sp := same_new (o := .lst [V.ref t1', V.ref t2', z', (valV (aboveK (P20.nodes t.er)) (keyS sn.er)).getD V.non]) hp
      have hz2 : HalfOf (upd G1 p (.lst [V.ref t1', V.ref t2', z', (valV (aboveK (P20.nodes t.er)) (keyS sn.er)).getD V.non])) sn.er z' := HalfAt.mono hz' fun a l r e => sp _ _ e
      exact hn _ _ ⟨p, t1', t2', z', _, rfl, sg1.trans sp, upd_same, sp _ _ (sg1 _ _ ht1'), sp _ _ ht2', hz2, rfl⟩
    rintro σ' H5 ⟨tl, t1', t2', z', ab, rfl, s5, htl, ht1', ht2', hz', eab⟩
    simp only [L2.start, cxOf, tRet, tAndV, tOrV, tNotV, tCB, tCons, tNil, tVar, tC, tOp, tUn, tTest, tB, tIf, tIfS, tSeq, tAsg, tAnd, tOr, tNot, gName, tNext, tCall, tChain, rI, rI0, rEq, rNe, rGcd, rU, tM1, tM0, tSl, tPart, tNoPart, gTup, gCons, gNil, gSub, tTup, tLst, tPar, L2.rI, List.map_cons, List.map_nil, List.length_cons, List.length_nil, List.cons_append, List.nil_append, List.append_nil, List.getElem?_cons_zero, List.getElem?_cons_succ, List.set_cons_zero, List.set_cons_succ, Option.some.injEq, exists_eq_left, exists_eq_left', exists_eq_right, exists_and_left, exists_and_right, List.cons.injEq, and_true, true_and, V.int.injEq, V.str.injEq, V.bl.injEq, V.ref.injEq, List.replicate, Nat.reduceAdd, Nat.reduceSub, reduceCtorEq, false_and, and_false, if_true, if_false, Bool.false_eq_true, Bool.not_true, Bool.not_false, decide_eq_true_eq, exists_false, or_false, false_or]
    have s15 := s14.trans s5
    have fl := List.length_filter_le (fun u => decide (u ∉ P20.leaves sn.er)) (P20.leaves t.er)
    have fin : ∀ (av : V) (G : Hp), Same H5 G → (Lk 3 G ab av) → 4 ≤ sizeLine ∧ ∀ p, G p = none → spLike 4 [.ref tl, .ref p] (upd G p (.lst [.ref t1, .ref t2, z, av])) Q C8.E0 := fun av G sg lkv => by
      refine ⟨small (by decide), fun p hp => ?_⟩
      have sp := same_new (o := .lst [V.ref t1, V.ref t2, z, av]) hp
      have sall : Same H5 _ := sg.trans sp
      refine ⟨_, _, rfl, .inr ⟨tl, p, _, _, rfl, rfl, .inl ⟨sall _ _ htl, upd_same⟩, rfl, by simp, fun i u v hu hv => ?_⟩, fun H' s' => q H' ((s15.trans sall).trans s')⟩
      match i, hu, hv with
      | 0, hu, hv =>
        cases hu
        cases hv
        exact lk_seq (n := 1) (.inr ⟨sall _ _ ht1', sall _ _ (s5 _ _ (s4 _ _ (s3 _ _ ht1)))⟩) wV_str (by rw [List.length_map]; omega)
      | 1, hu, hv =>
        cases hu
        cases hv
        exact lk_seq (n := 1) (.inr ⟨sall _ _ ht2', sall _ _ (s5 _ _ (s4 _ _ ht2))⟩) wV_str (by rw [List.length_map]; omega)
      | 2, hu, hv =>
        cases hu
        cases hv
        cases sn with
        | leaf w p =>
          obtain rfl : z' = .non := hz'
          obtain rfl : z = .non := hz
          exact lk_non
        | node l r' =>
          obtain ⟨ta, rfl, hta⟩ := hz'
          obtain ⟨tb, rfl, htb⟩ := hz
          refine lk_seq (n := 1) (.inr ⟨sall _ _ hta, sall _ _ (s5 _ _ htb)⟩) (fun z hz => ?_) (by simp)
          simp only [List.mem_cons, List.not_mem_nil, or_false] at hz
          rcases hz with rfl | rfl
          · exact ⟨_, rfl⟩
          · exact ⟨_, rfl⟩
      | 3, hu, hv =>
        cases hu
        cases hv
        exact lkv.same sp
    have ag := above_get fine.ok fine.nd nm
    refine ⟨X, _, t, sn, k, rfl, tab.same s15, hs, fine.nd, fun G p sg hp kd => fin _ G sg ?_, fun G sg no => fin _ G sg ?_⟩
    · rw [eab, ag.1 p hp kd]
      exact lk_str
    · rw [eab, ag.2 no]
      exact lk_non
end
end W20

set_option Elab.async false
set_option linter.all false
set_option maxRecDepth 100000
set_option maxHeartbeats 4000000
/-! GO20: what stays from call to call -/
namespace W20
open PySem PySem.Spec PyProof.Rows L2 Lay LamX
open SX (S S_len S_cat S_tl)
open C8 (Cal Mak pe_c pe_mk pe_gc fnScope_by E0)
/-- what stays from call to call: all but the bag and the tables -/
structure Go (T : List (Addr × Str)) (b : Addr) (H H' : Hp) : Prop where
  keep : ∀ a o, a ≠ b → H a = some o → (∀ ps, o ≠ .tbl ps) → H' a = some o
  bag : Bag H' b
  list : ∀ l r, H b = some (.lst (.ref l :: r)) → ∃ r', H' b = some (.lst (.ref l :: r'))
  tabs : Tabs T H'
theorem tabs_keep {T : List (Addr × Str)} {b : Addr} {H H' : Hp} (t : Tabs T H) (x : Ex b H H') (g : Bag H b) : Tabs T H' := by
  intro p hp
  obtain ⟨ps, h1, h2, h3⟩ := t p hp
  obtain ⟨l, ns, pos, big, mixed, cnt, left, hb, _⟩ := g
  have nb : ∀ {a : Addr} {o : HO}, H a = some o → (∀ xs, o ≠ .lst xs) → a ≠ b := fun e n z => by
    rw [z, hb] at e
    exact n _ (Option.some.inj e).symm
  refine ⟨ps, x.keep _ _ (nb h1 (fun _ z => by cases z)) h1, h2, fun pos cv hc => ?_⟩
  obtain ⟨c, e1, e2⟩ := h3 pos cv hc
  exact ⟨c, e1, x.keep _ _ (nb e2 (fun _ z => by unfold CodeO at z; cases z)) e2⟩
theorem Go.rf {T : List (Addr × Str)} {b : Addr} {H : Hp} (g : Bag H b) (t : Tabs T H) : Go T b H H := ⟨fun _ _ _ e _ => e, g, fun l r e => ⟨r, e⟩, t⟩
theorem Go.ex {T : List (Addr × Str)} {b : Addr} {H H1 H2 : Hp} (x : Go T b H H1) (y : Ex b H1 H2) : Go T b H H2 := ⟨fun a o n e t => y.keep a o n (x.keep a o n e t), y.bag, fun l r e => by
  obtain ⟨r', e'⟩ := x.list l r e
  exact y.list l r' e', tabs_keep x.tabs y x.bag⟩
theorem Go.sm {T : List (Addr × Str)} {b : Addr} {H H1 H2 : Hp} (x : Go T b H H1) (s : Same H1 H2) : Go T b H H2 := x.ex ((Ex.rf x.bag).sm s)
theorem Go.tr {T : List (Addr × Str)} {b : Addr} {H H1 H2 : Hp} (x : Go T b H H1) (y : Go T b H1 H2) : Go T b H H2 := ⟨fun a o n e t => y.keep a o n (x.keep a o n e t) t, y.bag, fun l r e => by
  obtain ⟨r', e'⟩ := x.list l r e
  exact y.list l r' e', y.tabs⟩
theorem Go.xt {T : List (Addr × Str)} {b : Addr} {H H1 H2 : Hp} (x : Go T b H H1) (e : ExtN H1 H2) (t : Tabs T H2) : Go T b H H2 := by
  refine ⟨fun a o n h1 h2 => e a o (x.keep a o n h1 h2) h2, ?_, fun l r h1 => ?_, t⟩
  · obtain ⟨l, ns, pos, big, mixed, cnt, left, h1, h2, h3⟩ := x.bag
    exact ⟨l, ns, pos, big, mixed, cnt, left, e _ _ h1 (fun _ z => by cases z), e _ _ h2 (fun _ z => by cases z), h3⟩
  · obtain ⟨r', e'⟩ := x.list l r h1
    exact ⟨r', e _ _ e' (fun _ z => by cases z)⟩

/-- Keeps all but the bag and the tables -/
abbrev Kp (b : Addr) (H H' : Hp) : Prop := ∀ a o, a ≠ b → H a = some o → (∀ ps, o ≠ .tbl ps) → H' a = some o
theorem RowAt.gt {X : Addr → Prop} {b : Addr} {H H' : Hp} {r : P20.Row} {v : V} (h : RowAt X H r v) (g : Bag H b) (k : Kp b H H') : RowAt X H' r v := by
  obtain ⟨a, p, rfl, xa, xp, h1, h2⟩ := h
  obtain ⟨l, ns, pos, big, mixed, cnt, left, hb, _⟩ := g
  refine ⟨a, p, rfl, xa, xp, k _ _ (fun z => ?_) h1 (fun _ z => by cases z), k _ _ (fun z => ?_) h2 (fun _ z => by cases z)⟩
  · rw [z, hb] at h1
    cases h1
  · rw [z, hb] at h2
    cases e : r.pl with
    | nil => rw [e] at h2; cases h2
    | cons x y => rw [e] at h2; cases h2
theorem TabAt.gt {X : Addr → Prop} {b : Addr} {H H' : Hp} {rs : List P20.Row} {v : V} (h : TabAt X H rs v) (g : Bag H b) (k : Kp b H H') : TabAt X H' rs v := by
  obtain ⟨a, us, rfl, xa, h1, h2⟩ := h
  exact ⟨a, us, rfl, xa, k _ _ (TabAt.ne h1 h2 g) h1 (fun _ z => by cases z), L2.Paired.mapP h2 fun _ _ z => z.gt g k⟩
theorem LandAt.gt {b a : Addr} {H H' : Hp} {ws : List P20.Wd} (h : LandAt H a ws) (g : Bag H b) (k : Kp b H H') : LandAt H' a ws := by
  obtain ⟨us, h1, h2⟩ := h
  obtain ⟨l, ns, pos, big, mixed, cnt, left, hb, _⟩ := g
  refine ⟨us, k _ _ (fun z => ?_) h1 (fun _ z => by cases z), L2.Paired.mapP h2 fun w v ⟨c, r, e1, e2⟩ => ⟨c, r, e1, k _ _ (fun z => ?_) e2 (fun _ z => by cases z)⟩⟩
  · rw [z, hb] at h1
    cases h1
    obtain ⟨r, _, c, p, e, _⟩ := paired_at (i := 1) h2 rfl
    cases e
  · rw [z, hb] at e2
    cases e2
theorem TreeAt.go {b C x : Addr} {H H' : Hp} {T : P20.Tr} (g : Bag H b) (k : ∀ a o, a ≠ b → H a = some o → (∀ ps, o ≠ .tbl ps) → H' a = some o) (h : TreeAt C H x T) : TreeAt C H' x T := by
  obtain ⟨l0, ns, pos, big, mixed, cnt, left, f1, _⟩ := g
  have nb : ∀ {a : Addr} {o : HO}, H a = some o → (∀ xs, o ≠ .lst xs) → a ≠ b := fun e n z => by
    rw [z, f1] at e
    exact n _ (Option.some.inj e).symm
  have kk : ∀ {a : Addr} {o : HO}, H a = some o → (∀ xs, o ≠ .lst xs) → (∀ ps, o ≠ .tbl ps) → H' a = some o := fun e n t => k _ _ (nb e n) e t
  obtain ⟨dx, lv, nn, d, lo, ab, h1, h2, h3, ⟨kv1, i1, i2, i3⟩, ⟨kv2, j1, j2, j3⟩, h6⟩ := h
  refine ⟨dx, lv, nn, d, lo, ab, kk h1 (fun _ z => by cases z) (fun _ z => by cases z), kk h2 (fun _ z => by cases z) (fun _ z => by cases z), kk h3 (fun _ z => by cases z) (fun _ z => by cases z), ⟨kv1, kk i1 (fun _ z => by cases z) (fun _ z => by cases z), i2, fun i e' kv g1 g2 => (i3 i e' kv g1 g2).mono fun t l r z => kk z (fun _ z => by cases z) (fun _ z => by cases z)⟩,
    ⟨kv2, kk j1 (fun _ z => by cases z) (fun _ z => by cases z), j2, fun i n kv g1 g2 => ?_⟩, kk h6 (fun _ z => by cases z) (fun _ z => by cases z)⟩
  obtain ⟨t, et, ht⟩ := j3 i n kv g1 g2
  exact ⟨t, et, kk ht (fun _ z => by cases z) (fun _ z => by cases z)⟩

theorem toks_small {n : P20.Tr} (h : ∀ w ∈ P20.leaves n, nameB w = true) : ∀ u ∈ P20.toks n, (P20.Brk u ∨ P20.Name u) ∧ u.length ≤ 8 := fun u hu => by
  refine ⟨P20.toks_word (fun w hw => name_of (h w hw)) u hu, ?_⟩
  have key : ∀ {t : P20.Tr}, (∀ w ∈ P20.leaves t, w.length ≤ 8) → ∀ u ∈ P20.toks t, u.length ≤ 8 := by
    intro t
    induction t with
    | leaf w =>
      intro hg u hu
      rw [List.mem_singleton.mp hu]
      exact hg w (List.mem_singleton.mpr rfl)
    | node l r il ir =>
      intro hg u hu
      rcases List.mem_cons.mp hu with rfl | hu
      · decide
      · rcases List.mem_append.mp hu with hu | hu
        · exact il (fun w hw => hg w (List.mem_append_left _ hw)) u hu
        · rcases List.mem_append.mp hu with hu | hu
          · exact ir (fun w hw => hg w (List.mem_append_right _ hw)) u hu
          · rw [List.mem_singleton.mp hu]
            decide
  exact key (fun w hw => name_len (h w hw)) u hu
end W20

set_option Elab.async false
set_option linter.all false
set_option maxRecDepth 100000
set_option maxHeartbeats 4000000
/-! NA20: _law_absent_right -/
namespace W20
open PySem PySem.Spec PyProof.Rows L2 Lay LamX
open SX (S S_len S_cat S_tl)
open C8 (Cal Mak pe_c pe_mk pe_gc fnScope_by E0)
def q60 : Str := ("_law_absent_right" : Str) ++ (".<locals>." : Str) ++ ("<lambda>" : Str)
/-- [one[0] for one in nodes] -/
theorem lc_texts {X : Addr → Prop} {K : PySem.W.Frag} {tl : TE} {te : TE} {v : Nat} {σ : L2.St} {H : Hp} {Q : VK} {l : Addr} {us : List V} {t : P20.PT} (h : ∀ R : VK, R (.ref l) H → tl σ H R) (hl : H l = some (.lst us)) (hr : RowsAt X H (P20.rows t) us) (fw : (P20.rows t).length ≤ 1000)
    (hw : ∀ x, wipe ((wipe σ [v]).set v (some x)) [v] = wipe σ [v]) (e : ∀ x H1 (R : VK), rIxL K x (.int 0) H1 R → te ((wipe σ [v]).set v (some x)) H1 R)
    (k : ∀ D H', H D = none → Same H H' → H' D = some (wordsV ((P20.nodes t.er).map P20.spell)) → Q (.ref D) H') :
    tLc (iList K tl) (gName v) tYes te [v] σ H Q := by
  have szl := sizeLine_eq
  have lu : (P20.rows t).length = us.length := hr.length
  have lr := P20.rows_len t
  have ln := P20.subs_len t
  refine Lay.lc_list (K := K) (v := v) (l := l) (xs := us) h (SqL.of hl) hw fun D hD => ⟨fun i H' => Same H H' ∧ H' D = some (wordsV (((P20.nodes t.er).take i).map P20.spell)), ⟨same_new hD, upd_same⟩, fun i H' hi h => SqL.of (h.1 _ _ hl), fun i z H' hz ⟨sH, hDD⟩ => ?_, fun H' ⟨sH, hDD⟩ => ?_⟩
  · have li : i < us.length := (List.getElem?_eq_some_iff.mp hz).1
    obtain ⟨r, hr0, c, p, rfl, xc, xp, hc, hp⟩ := paired_at hr hz
    obtain ⟨s, hs⟩ : ∃ s, t.subs[i]? = some s := ⟨_, List.getElem?_eq_getElem (by omega)⟩
    have e1 := (P20.rows_of t i s r hs hr0).1
    have es : (P20.nodes t.er)[i]? = some s.er := by rw [← P20.subs_er, List.getElem?_map, hs]; rfl
    unfold tYes
    dsimp only
    rw [if_pos rfl]
    refine e _ _ _ (ixL (SqL.of (sH _ _ hc)) 0 (by rw [e1]; rfl) ⟨_, hDD, ?_, ?_, ?_⟩)
    · rw [List.length_map, List.length_map, List.length_take]
      omega
    · intro b o hb
      rw [upd_ne (ne_of_none hb hD)]
      exact sH _ _ hb
    · rw [upd_same, List.take_succ, es]
      simp [wordsV, wV]
  · refine k D H' hD sH ?_
    rw [hDD, ← lu, lr, ln, List.take_length]
/-- a call of which NoSuch is due -/
theorem ref_no {T : List (Addr × Str)} {q : Str} {CB CN CM b : Addr} {σ : L2.St} {H : Hp} {R : VK} {tb : XK → TE} {u : List Nat} {i : Nat} (bag : Bag H b) (ts : Tabs T H) (hσ : σ[i]? = some (some (.str (S u))))
    (hb : ∀ H' Q' E', Go T b H H' → Raised CN "name" (.str (S u)) H' E' → tb E' σ H' Q') (k : ∀ H', Go T b H H' → R (.bl true) H') :
    tLamN T q (spRef CB CN CM) (fun _ => C8.E0) tb (tCons (tCall spNo [] C8.E0 (tCons (tVar i) tNil)) tNil) σ H R := by
  refine ⟨ts, fun H1 c' e1 t1 hc => ?_⟩
  have g1 := (Go.rf bag ts).xt e1 t1
  simp only [L2.start, cxOf, tRet, tAndV, tOrV, tNotV, tCB, tCons, tNil, tVar, tC, tOp, tUn, tTest, tB, tIf, tIfS, tSeq, tAsg, tAnd, tOr, tNot, gName, tNext, tCall, tChain, rI, rI0, rEq, rNe, rGcd, rU, tM1, tM0, tSl, tPart, tNoPart, gTup, gCons, gNil, gSub, tTup, tLst, tPar, L2.rI, List.map_cons, List.map_nil, List.length_cons, List.length_nil, List.cons_append, List.nil_append, List.append_nil, List.getElem?_cons_zero, List.getElem?_cons_succ, List.set_cons_zero, List.set_cons_succ, Option.some.injEq, exists_eq_left, exists_eq_left', exists_eq_right, exists_and_left, exists_and_right, List.cons.injEq, and_true, true_and, V.int.injEq, V.str.injEq, V.bl.injEq, V.ref.injEq, List.replicate, Nat.reduceAdd, Nat.reduceSub, reduceCtorEq, false_and, and_false, if_true, if_false, Bool.false_eq_true, Bool.not_true, Bool.not_false, decide_eq_true_eq, exists_false, or_false, false_or, hσ]
  refine ⟨_, rfl, fun a ha => ?_⟩
  have sa := same_new (o := .lst [V.str ("NoSuch" : Str), V.str (S u), V.str ("LookupError" : Str)]) ha
  refine ⟨a, rfl, fun H3 Q' E' s3 er => ⟨s3 _ _ (sa _ _ hc), hb _ _ _ ((g1.sm sa).sm s3) fun H4 d s4 nd hd => er _ _ _ s4 (.inr (.inl ⟨rfl, d, _, rfl, hd, upd_same⟩))⟩, fun H3 s3 => k _ ((g1.sm sa).sm s3)⟩
section
variable {P : Program} {w : World} {K : PySem.W.Frag} {mg : Str → Option Value} {base : Heap} {fA CB CN CM : Addr} {fd fdA : FuncData}
theorem sd60 : FnScope ["bag", "made", "nodes", "word", "one"] ["bag", "made", "nodes", "word"] (defScope (top 60)) := fnScope_by (by decide +kernel)
def spAbsR (C : Addr) (T2 : List (Addr × Str)) : Sp := fun vs H Q _ => ∃ (X : Addr → Prop) (b x : Addr) (v : V) (u : List Nat) (t : P20.PT), vs = [.ref b, .ref x, v, .str (S u)] ∧ Bag H b ∧ Tabs T2 H ∧ TreeAt C H x t.er ∧ Fine t.er ∧ TabAt X H (P20.rows t) v ∧ u.length ≤ 10000 ∧
  ∀ H', Go T2 b H H' → Q (.bl true) H'
theorem ok_absr (m : Mg K mg) (tc : Tc K mg) (c__law_draw : Cal P w K mg base 1 "_law_draw" spDraw []) (c__law_no : Cal P w K mg base 1 "_law_no" spNo [])
    (c_lot : MetN P w K mg base 3 (cT K) "lot" (spLot (cT K) CN)) (c_rest : MetN P w K mg base 4 (cT K) "rest" (spRest (cT K) CN)) (c_halves : MetN P w K mg base 3 (cT K) "halves" (spHalves (cT K) CN)) (c_above : MetN P w K mg base 3 (cT K) "above" (spAbove (cT K) CN))
    (c_refused : CalL P w K mg base 9 7 "_law_refused" (spRef CB CN CM))
    (F : FunD K "_law_absent_right" "_law_absent_right" (defArgs (top 60)) (defBody (top 60)) (defScope (top 60)) [] [] (He.fAd K ("_law_absent_right", none)) fd) (g : mg "_law_absent_right" = some (.ref (He.fAd K ("_law_absent_right", none)))) {c Pt : Addr} {T2 : List (Addr × Str)} (memT : (Pt, q60) ∈ T2) (huT : ∀ p ∈ T2, p.1 = Pt → p.2 = q60)
    (hcT : He.codeOf K ("_law_absent_right", none) = c) (TB : TabB base mg c Pt) : Cal P w K mg base 11 "_law_absent_right" (spAbsR (cT K) T2) [] := by
  have sc := sd60
  have kp := F.kp
  have bb := F.bindsN (ps := ["bag", "made", "nodes", "word"]) fun _ _ _ _ _ _ us hl => match us, hl with | [_, _, _, _], _ => rfl
  obtain ⟨oc, od, dV, kV, doc, pm, an, cdv, ct, osl, rfl, lk, hcd, _, _⟩ := F.ex
  obtain ⟨c0, rfl⟩ := He.codeIn_ref hcd
  obtain rfl : c0 = c := by rw [← hcT]; exact (He.codeOf_eq lk rfl).symm
  obtain ⟨gTf, gTd, gTp, fT, gT, kpT, bT⟩ := c_refused.ex
  refine ⟨He.fAd K ("_law_absent_right", none), _, ["bag", "made", "nodes", "word"], [], fn_of (k := 10) lk hcd sc ?_ fun A outer s H vs Q E hr h => ?_, g, kp, bb, .nil⟩
  · rintro vs H Q E ⟨X, b, x, v, u, t, rfl, _⟩
    rfl
  · obtain ⟨X, b, x, v, u, t, rfl, bag, tb, tr, fine, ⟨na, nv, rfl, xna, hna, hrs⟩, lu, q⟩ := h
    refine ⟨_, PSs.nox (pss_cons (ps_if (pt_cmpR (show OpR _ (compareOp .In) (rIn K false) from op_in_seq) (pv 3) (pe_lc (own := [("one", 4)]) (g := gName 4) (by rfl) sc.nd (pi_list (pv 2)) (blkOk_by (own := [("one", 4)]) (N := ["bag", "made", "nodes", "word", "one"]) (sc := defScope (top 60)) (by decide +kernel)) (fun _ _ _ _ _ => pg_name (i := 4) sc.nd rfl (.inl rfl)) (fun _ _ _ _ _ => pts_nil) (fun _ _ _ _ _ => pe_ix (show IxR _ (rIxL K) from ix_list) (pv 4) pe_int (fun _ _ => rfl))) rfl)
        (pss_one (ps_ret pe_bl))
        pss_nil)
      (pss_cons (ps_if (pt_not (pt_val (pe_lamN (CXL := L2N.CX P w) (T := T2) (E := fun _ => C8.E0) fT (hr.mono (by omega)) (by rfl) gT kpT bT (fun _ _ _ _ _ _ _ h => h.elim) TB rfl memT huT (lamS_by (sc := defScope (top 60)) (by decide +kernel)) (by rfl) (fun _ _ _ _ _ => by rfl) (fun A outer s H E f c' r => pe_mtN c_lot r (by decide) (takesL rfl rfl) (pv 1) (pa_cons (pv 3) pa_nil)) (pa_cons (pe_c c__law_no hr (by omega) (by rfl) (pa_cons (pv 3) pa_nil)) pa_nil))))
        (pss_one (ps_ret pe_bl))
        pss_nil)
      (pss_cons (ps_if (pt_not (pt_val (pe_lamN (CXL := L2N.CX P w) (T := T2) (E := fun _ => C8.E0) fT (hr.mono (by omega)) (by rfl) gT kpT bT (fun _ _ _ _ _ _ _ h => h.elim) TB rfl memT huT (lamS_by (sc := defScope (top 60)) (by decide +kernel)) (by rfl) (fun _ _ _ _ _ => by rfl) (fun A outer s H E f c' r => pe_mtN c_rest r (by decide) (takesL rfl rfl) (pv 1) (pa_cons (pv 3) pa_nil)) (pa_cons (pe_c c__law_no hr (by omega) (by rfl) (pa_cons (pv 3) pa_nil)) pa_nil))))
        (pss_one (ps_ret pe_bl))
        pss_nil)
      (pss_cons (ps_if (pt_cmpR op_eq (pe_c c__law_draw hr (by omega) (by rfl) (pa_cons (pv 0) (pa_cons pe_int pa_nil))) pe_int (nomark _))
        (pss_one (ps_ret (pe_lamN (CXL := L2N.CX P w) (T := T2) (E := fun _ => C8.E0) fT (hr.mono (by omega)) (by rfl) gT kpT bT (fun _ _ _ _ _ _ _ h => h.elim) TB rfl memT huT (lamS_by (sc := defScope (top 60)) (by decide +kernel)) (by rfl) (fun _ _ _ _ _ => by rfl) (fun A outer s H E f c' r => pe_mtN c_halves r (by decide) (takesL rfl rfl) (pv 1) (pa_cons (pv 3) pa_nil)) (pa_cons (pe_c c__law_no hr (by omega) (by rfl) (pa_cons (pv 3) pa_nil)) pa_nil))))
        pss_nil)
      (pss_one (ps_ret (pe_lamN (CXL := L2N.CX P w) (T := T2) (E := fun _ => C8.E0) fT (hr.mono (by omega)) (by rfl) gT kpT bT (fun _ _ _ _ _ _ _ h => h.elim) TB rfl memT huT (lamS_by (sc := defScope (top 60)) (by decide +kernel)) (by rfl) (fun _ _ _ _ _ => by rfl) (fun A outer s H E f c' r => pe_mtN c_above r (by decide) (takesL rfl rfl) (pv 1) (pa_cons (pv 3) pa_nil)) (pa_cons (pe_c c__law_no hr (by omega) (by rfl) (pa_cons (pv 3) pa_nil)) pa_nil)))))))), ?_⟩
    have szl := sizeLine_eq
    have lr := P20.rows_len t
    have ln := P20.subs_len t
    have fn := fine.nodes
    simp only [L2.start, cxOf, tRet, tAndV, tOrV, tNotV, tCB, tCons, tNil, tVar, tC, tOp, tUn, tTest, tB, tSeq, tAsg, tNot, gName, tNext, tCall, tChain, rI, rI0, rEq, rNe, rGcd, rU, tM1, tM0, tSl, tPart, tNoPart, gTup, gCons, gNil, gSub, tTup, tLst, tPar, L2.rI, List.map_cons, List.map_nil, List.length_cons, List.length_nil, List.cons_append, List.nil_append, List.append_nil, List.getElem?_cons_zero, List.getElem?_cons_succ, List.set_cons_zero, List.set_cons_succ, Option.some.injEq, exists_eq_left, exists_eq_left', exists_eq_right, exists_and_left, exists_and_right, List.cons.injEq, and_true, true_and, V.int.injEq, V.str.injEq, V.bl.injEq, V.ref.injEq, List.replicate, Nat.reduceAdd, Nat.reduceSub, reduceCtorEq, false_and, and_false, if_true, if_false, Bool.false_eq_true, Bool.not_true, Bool.not_false, decide_eq_true_eq, exists_false, or_false, false_or, tIfS]
    refine lc_texts (v := 4) (t := t) (fun R k => ⟨_, rfl, k⟩) hna hrs (by omega) (fun x => rfl) (fun y H1 R k => ⟨_, rfl, k⟩) fun D H1 hD s1 e1 => ?_
    refine rin_wordsF e1 ⟨_, rfl, ?_⟩
    have g1 : Go T2 b H H1 := (Go.rf bag tb).sm s1
    by_cases c : u ∈ (P20.nodes t.er).map P20.spell
    · rw [if_pos (by simpa using c)]
      exact q _ g1
    · rw [if_neg (by simpa using c)]
      have no : ∀ n ∈ P20.nodes t.er, P20.spell n ≠ u := fun n hn e => c (List.mem_map.mpr ⟨n, hn, e⟩)
      have tr1 := tr.same s1
      have meth : ∀ {G : Hp}, Go T2 b H1 G → TreeAt (cT K) G x t.er := fun g => TreeAt.go g1.bag g.keep tr1
      refine ref_no (i := 3) g1.bag g1.tabs rfl (fun G Q' E' g er => ?_) fun H2 g2 => ⟨true, rfl, ?_⟩
      · simp only [tMethN, WE, L2.start, cxOf, tRet, tAndV, tOrV, tNotV, tCB, tCons, tNil, tVar, tC, tOp, tUn, tTest, tB, tIf, tIfS, tSeq, tAsg, tAnd, tOr, tNot, gName, tNext, tCall, tChain, rI, rI0, rEq, rNe, rGcd, rU, tM1, tM0, tSl, tPart, tNoPart, gTup, gCons, gNil, gSub, tTup, tLst, tPar, L2.rI, List.map_cons, List.map_nil, List.length_cons, List.length_nil, List.cons_append, List.nil_append, List.append_nil, List.getElem?_cons_zero, List.getElem?_cons_succ, List.set_cons_zero, List.set_cons_succ, Option.some.injEq, exists_eq_left, exists_eq_left', exists_eq_right, exists_and_left, exists_and_right, List.cons.injEq, and_true, true_and, V.int.injEq, V.str.injEq, V.bl.injEq, V.ref.injEq, List.replicate, Nat.reduceAdd, Nat.reduceSub, reduceCtorEq, false_and, and_false, if_true, if_false, Bool.false_eq_true, Bool.not_true, Bool.not_false, decide_eq_true_eq, exists_false, or_false, false_or]
        obtain ⟨dx, lv, nn, d, lo, ab, hx, _⟩ := id (meth g)
        exact ⟨_, _, hx, rfl, x, t.er, _, rfl, meth g, fine.ok, fine.nd, .inr ⟨no, er⟩⟩
      rw [if_neg (by decide)]
      refine ref_no (i := 3) g2.bag g2.tabs rfl (fun G Q' E' g er => ?_) fun H3 g3 => ⟨true, rfl, ?_⟩
      · simp only [tMethN, WE, L2.start, cxOf, tRet, tAndV, tOrV, tNotV, tCB, tCons, tNil, tVar, tC, tOp, tUn, tTest, tB, tIf, tIfS, tSeq, tAsg, tAnd, tOr, tNot, gName, tNext, tCall, tChain, rI, rI0, rEq, rNe, rGcd, rU, tM1, tM0, tSl, tPart, tNoPart, gTup, gCons, gNil, gSub, tTup, tLst, tPar, L2.rI, List.map_cons, List.map_nil, List.length_cons, List.length_nil, List.cons_append, List.nil_append, List.append_nil, List.getElem?_cons_zero, List.getElem?_cons_succ, List.set_cons_zero, List.set_cons_succ, Option.some.injEq, exists_eq_left, exists_eq_left', exists_eq_right, exists_and_left, exists_and_right, List.cons.injEq, and_true, true_and, V.int.injEq, V.str.injEq, V.bl.injEq, V.ref.injEq, List.replicate, Nat.reduceAdd, Nat.reduceSub, reduceCtorEq, false_and, and_false, if_true, if_false, Bool.false_eq_true, Bool.not_true, Bool.not_false, decide_eq_true_eq, exists_false, or_false, false_or]
        obtain ⟨dx, lv, nn, d, lo, ab, hx, _⟩ := id (meth (g2.tr g))
        exact ⟨_, _, hx, rfl, x, t.er, _, rfl, meth (g2.tr g), fine.ok, fine.nd, fine.few, .inr ⟨no, er⟩⟩
      rw [if_neg (by decide)]
      have g13 := g2.tr g3
      refine ⟨b, 2, rfl, g3.bag, by decide, by decide, fun H4 d x4 _ _ => ⟨rfl, ?_⟩⟩
      have g14 := g13.ex x4
      by_cases c0 : (V.int d) = V.int 0
      · rw [if_pos c0]
        refine ref_no (i := 3) g14.bag g14.tabs rfl (fun G Q' E' g er => ?_) fun H5 g5 => q _ (g1.tr (g14.tr g5))
        · simp only [tMethN, WE, L2.start, cxOf, tRet, tAndV, tOrV, tNotV, tCB, tCons, tNil, tVar, tC, tOp, tUn, tTest, tB, tIf, tIfS, tSeq, tAsg, tAnd, tOr, tNot, gName, tNext, tCall, tChain, rI, rI0, rEq, rNe, rGcd, rU, tM1, tM0, tSl, tPart, tNoPart, gTup, gCons, gNil, gSub, tTup, tLst, tPar, L2.rI, List.map_cons, List.map_nil, List.length_cons, List.length_nil, List.cons_append, List.nil_append, List.append_nil, List.getElem?_cons_zero, List.getElem?_cons_succ, List.set_cons_zero, List.set_cons_succ, Option.some.injEq, exists_eq_left, exists_eq_left', exists_eq_right, exists_and_left, exists_and_right, List.cons.injEq, and_true, true_and, V.int.injEq, V.str.injEq, V.bl.injEq, V.ref.injEq, List.replicate, Nat.reduceAdd, Nat.reduceSub, reduceCtorEq, false_and, and_false, if_true, if_false, Bool.false_eq_true, Bool.not_true, Bool.not_false, decide_eq_true_eq, exists_false, or_false, false_or]
          obtain ⟨dx, lv, nn, d, lo, ab, hx, _⟩ := id (meth (g14.tr g))
          exact ⟨_, _, hx, rfl, x, t.er, _, rfl, meth (g14.tr g), fine.ok, fine.nd, .inr ⟨no, er⟩⟩
      · rw [if_neg c0]
        refine ref_no (i := 3) g14.bag g14.tabs rfl (fun G Q' E' g er => ?_) fun H5 g5 => q _ (g1.tr (g14.tr g5))
        · simp only [tMethN, WE, L2.start, cxOf, tRet, tAndV, tOrV, tNotV, tCB, tCons, tNil, tVar, tC, tOp, tUn, tTest, tB, tIf, tIfS, tSeq, tAsg, tAnd, tOr, tNot, gName, tNext, tCall, tChain, rI, rI0, rEq, rNe, rGcd, rU, tM1, tM0, tSl, tPart, tNoPart, gTup, gCons, gNil, gSub, tTup, tLst, tPar, L2.rI, List.map_cons, List.map_nil, List.length_cons, List.length_nil, List.cons_append, List.nil_append, List.append_nil, List.getElem?_cons_zero, List.getElem?_cons_succ, List.set_cons_zero, List.set_cons_succ, Option.some.injEq, exists_eq_left, exists_eq_left', exists_eq_right, exists_and_left, exists_and_right, List.cons.injEq, and_true, true_and, V.int.injEq, V.str.injEq, V.bl.injEq, V.ref.injEq, List.replicate, Nat.reduceAdd, Nat.reduceSub, reduceCtorEq, false_and, and_false, if_true, if_false, Bool.false_eq_true, Bool.not_true, Bool.not_false, decide_eq_true_eq, exists_false, or_false, false_or]
          obtain ⟨dx, lv, nn, d, lo, ab, hx, _⟩ := id (meth (g14.tr g))
          exact ⟨_, _, hx, rfl, x, t.er, _, rfl, meth (g14.tr g), fine.ok, fine.nd, .inr ⟨no, er⟩⟩
end
end W20

set_option Elab.async false
set_option linter.all false
set_option maxRecDepth 100000
set_option maxHeartbeats 4000000
/-! LayZd: l[i].replace of written texts, no token being out; a text many times -/
namespace Lay
open PySem PySem.Spec PyProof.Rows L2
section
variable {X : Cx} {a : Expr} {ta : TE} {y z : Str} {i : Int} {j k ji : Nat} {ci pi c0 c1 apos pos : Pos}
theorem pe_replI {r : R2} (hr : IxR X r) (ha : PE X a ta) (hyz : (y == z) = false := by decide)
    (hst : starEach [.Constant (.str y) j c0, .Constant (.str z) k c1] X.env = [(false, eval (.Constant (.str y) j c0) X.env), (false, eval (.Constant (.str z) k c1) X.env)] := by rfl)
    (hbase : attributeBase (.Subscript a (.Constant (.int i) ji ci) pi) "replace" X.env (eval (.Subscript a (.Constant (.int i) ji ci) pi) X.env) = eval (.Subscript a (.Constant (.int i) ji ci) pi) X.env := by rfl) (hline : (apos.endLine == pos.line) = true := by rfl) :
    PE X (.Call (.Attribute (.Subscript a (.Constant (.int i) ji ci) pi) "replace" apos) [.Constant (.str y) j c0, .Constant (.str z) k c1] [] pos) (CwR.tReplC (tOp r ta (tC (.int i))) y z) := by
  refine ⟨fun pins s σ H Q I h => ?_⟩
  have key : wpAny (model X.prog X.w) X.A (eval (.Subscript a (.Constant (.int i) ji ci) pi) X.env) (fun v s1 => 1 ≤ s1.toks ∧ EP X pins σ (fun v H1 => ∃ x, v = .str x ∧ x.length + (x.length + 1) * z.length ≤ 16777216 ∧ Q (.str (Txt.replace x y z)) H1) v s1) X.xe s := by
    refine Subscript_ (thn (ha.run pins s σ H _ I h) fun v s1 ⟨x, H1, I1, r1, q1⟩ => ?_)
    refine wpAny_Constant_int ?_
    exact wpAny_mono (PySem.wpAny_toks_of (n := 1) (by show 1 ≤ s1.toks + 1; omega) (hr _ _ pins _ σ H1 x (.int i) v _ _ (I1.tok _) r1 ⟨_, rfl⟩ q1 rfl)) (fun _ _ z => z) (fun _ _ z => z.2)
  refine PySem.Call_method2 hbase hst hline (wpAny_mono key (fun v s1 q => ?_) fun _ _ z => z)
  obtain ⟨hk, v', H1, I1, r1, x, e1, hb, q⟩ := q
  subst e1
  obtain ⟨tx, e2⟩ := r1
  subst e2
  refine ⟨"str", _, PySem.F.plainAttrs_str, PySem.F.slot_str_replace, PySem.F.type_str_replace, typeIs_str _ _ _, (fun _ e => nomatch e), Calls.callWith_builtin rfl (Calls.evalArgs_plain (Calls.spliced_cons ?_))⟩
  refine Calls.Constant_str (Calls.spliced_cons (Calls.Constant_str (Calls.spliced_nil ?_)))
  exact PySem.SC.replace (by show s1.toks ≠ 0; omega) (by show s1.toks + 1 ≠ 0; omega) (by show s1.toks ≠ s1.toks + 1; omega) hyz hb fun t' k => ⟨.str (Txt.replace x y z), H1, I1.tok k, ⟨t', rfl⟩, q⟩
end
open SX (S S_len)
theorem fold_repA (a : List Nat) : ∀ (n : Nat) (acc : Array Nat), (List.replicate n a.toArray).foldl (· ++ ·) acc = acc ++ ((List.replicate n a).flatten).toArray
  | 0, acc => by simp
  | n + 1, acc => by
    rw [List.replicate_succ, List.foldl_cons, fold_repA a n, List.replicate_succ]
    apply Array.ext'
    simp
/-- 'xyz' * n -/
def rRepA : R2 := fun x y H Q => ∃ (a : List Nat) (n : Nat), x = .str (S a) ∧ y = .int (n : Int) ∧ 1 ≤ a.length ∧ a.length ≤ 1000 ∧ 2 ≤ n ∧ n ≤ 1000 ∧ Q (.str (S ((List.replicate n a).flatten))) H
theorem op_repA {X : Cx} : OpR X (binaryOp .Mult) rRepA := by
  rintro pins s σ H x y v u Q I rx ry ⟨a, n, rfl, rfl, a1, a2, h2, hm, q⟩
  obtain ⟨t, rfl⟩ := rx
  obtain ⟨t', rfl⟩ := ry
  have l1 : (S a).length = a.length := S_len _
  have mm : a.length * n ≤ 1000000 := Nat.le_trans (Nat.mul_le_mul a2 hm) (by decide)
  refine P.mul_str ?_ ?_ ?_ ?_
  · rw [decide_eq_false (show ¬ (n : Int) < -(2 ^ 63) by omega), decide_eq_false (show ¬ (n : Int) ≥ 2 ^ 63 by omega)]
    rfl
  · intro _ _ z
    rw [l1] at z
    have : (2 : Int) ^ 63 - 1 = 9223372036854775807 := by decide
    rw [this] at z
    have e : (a.length : Int) ≤ 9223372036854775807 / (n : Int) := (Int.le_ediv_iff_mul_le (by omega)).mpr (by
      have : ((a.length * n : Nat) : Int) ≤ 1000000 := by omega
      rw [Int.natCast_mul] at this
      omega)
    have z : (a.length : Int) > 9223372036854775807 / (n : Int) := z
    omega
  · intro _ _
    rw [l1]
    refine decide_eq_false fun z => ?_
    rw [Int.toNat_natCast] at z
    have := sizeLine_eq
    omega
  · rw [if_neg (by omega), if_neg (by
      have : ((n : Int) == 1) = false := by
        rw [beq_eq_false_iff_ne]
        omega
      rw [this]
      simp
      rw [l1]
      omega)]
    have e : (⟨(List.replicate ((n : Int)).toNat (S a).cps).foldl (· ++ ·) #[]⟩ : Str) = S ((List.replicate n a).flatten) := by
      have := fold_repA a n #[]
      rw [Int.toNat_natCast]
      show (⟨_⟩ : Str) = ⟨_⟩
      congr 1
      rw [show (S a).cps = a.toArray from rfl, this]
      simp
    rw [e]
    refine ⟨?_, ⟨.str _, H, I.tok _, ⟨_, rfl⟩, q⟩⟩
    rw [S_len, List.length_flatten, List.map_replicate, List.sum_replicate_nat, sizeLine_eq, Nat.mul_comm]
    omega
end Lay

set_option Elab.async false
set_option linter.all false
set_option maxRecDepth 100000
set_option maxHeartbeats 4000000
/-! MB20: refusals; what stands while a tree is told -/
namespace W20
open PySem PySem.Spec PyProof.Rows L2 Lay LamX
open SX (S S_len S_cat S_tl)
open C8 (Cal Mak pe_c pe_mk pe_gc fnScope_by E0)
theorem same_two {C : Addr} {H1 : Hp} {x dx : Addr} (hx : H1 x = none) (hdx : H1 dx = none) (ne : dx ≠ x) : Same H1 (upd (upd H1 dx (.own x)) x (.ins C dx [])) := fun b o hb => by
  rw [upd_ne (ne_of_none hb hx), upd_ne (ne_of_none hb hdx)]
  exact hb
/-- Tree(text), no tree's text -/
theorem mk_bad {C CB CM : Addr} {a : List Nat} {H1 : Hp} {Qx : V → Hp → Prop} {E : XK} (e : P20.namesOf nameB (P20.words a) = none) (al : a.length ≤ 200000) (fw : (P20.words a).length < 4000) (ow : ∀ u ∈ P20.words a, u.length ≤ 100000) (q : Raised CB "why" (.str ("no tree" : Str)) H1 E) :
    ∀ x dx, H1 x = none → H1 dx = none → dx ≠ x → spInit C CB CM [.ref x, .str (S a)] (upd (upd H1 dx (.own x)) x (.ins C dx [])) Qx E := fun x dx hx hdx ne =>
  ⟨x, dx, a, rfl, upd_same, al, fw, ow, .inl ⟨e, q.mono (same_two hx hdx ne)⟩⟩
theorem mk_many {C CB CM : Addr} {T : P20.Tr} {a : List Nat} {H1 : Hp} {Qx : V → Hp → Prop} {E : XK} (ea : P20.words a = P20.toks T) (al : a.length ≤ 200000) (fw : (P20.words a).length < 4000) (ow : ∀ u ∈ P20.words a, u.length ≤ 100000) (good : P20.Good nameB T) (nd : (P20.leaves T).Nodup) (many : 24 < (P20.leaves T).length)
    (q : RaisedX CM tooM H1 E) :
    ∀ x dx, H1 x = none → H1 dx = none → dx ≠ x → spInit C CB CM [.ref x, .str (S a)] (upd (upd H1 dx (.own x)) x (.ins C dx [])) Qx E := fun x dx hx hdx ne =>
  ⟨x, dx, a, rfl, upd_same, al, fw, ow, .inr ⟨T, ea, good, nd, by
    rw [if_neg (by omega)]
    exact q.mono (same_two hx hdx ne)⟩⟩
/-- a call of which BadTree is due -/
theorem ref_bad {T : List (Addr × Str)} {q : Str} {CB CN CM b : Addr} {σ : L2.St} {H : Hp} {R : VK} {tb : XK → TE} (bag : Bag H b) (ts : Tabs T H)
    (hb : ∀ H' Q' E', Go T b H H' → (∀ z : Str, 0 < z.length → z.length ≤ 1000 → Raised CB "why" (.str z) H' E') → tb E' σ H' Q') (k : ∀ H', Go T b H H' → R (.bl true) H') :
    tLamN T q (spRef CB CN CM) (fun _ => C8.E0) tb (tCons (tCall spBad [] C8.E0 (tCons (tC (V.str (Str.ofString "BadTree"))) (tCons (tLst tNil) tNil))) tNil) σ H R := by
  refine ⟨ts, fun H1 c' e1 t1 hc => ?_⟩
  have g1 := (Go.rf bag ts).xt e1 t1
  simp only [L2.start, cxOf, tRet, tAndV, tOrV, tNotV, tCB, tCons, tNil, tVar, tC, tOp, tUn, tTest, tB, tIf, tIfS, tSeq, tAsg, tAnd, tOr, tNot, gName, tNext, tCall, tChain, rI, rI0, rEq, rNe, rGcd, rU, tM1, tM0, tSl, tPart, tNoPart, gTup, gCons, gNil, gSub, tTup, tLst, tPar, L2.rI, List.map_cons, List.map_nil, List.length_cons, List.length_nil, List.cons_append, List.nil_append, List.append_nil, List.getElem?_cons_zero, List.getElem?_cons_succ, List.set_cons_zero, List.set_cons_succ, Option.some.injEq, exists_eq_left, exists_eq_left', exists_eq_right, exists_and_left, exists_and_right, List.cons.injEq, and_true, true_and, V.int.injEq, V.str.injEq, V.bl.injEq, V.ref.injEq, List.replicate, Nat.reduceAdd, Nat.reduceSub, reduceCtorEq, false_and, and_false, if_true, if_false, Bool.false_eq_true, Bool.not_true, Bool.not_false, decide_eq_true_eq, exists_false, or_false, false_or]
  refine ⟨small (by decide), fun l hl => ⟨l, rfl, upd_same, fun H2 a s2 na bl => ?_⟩⟩
  have s02 := (same_new (o := .lst []) hl).trans s2
  refine ⟨a, rfl, fun H3 Q' E' s3 er => ⟨s3 _ _ (s02 _ _ hc), hb _ _ _ ((g1.sm s02).sm s3) fun z z0 z1 H4 d s4 nd hd => er _ _ _ s4 (.inl ⟨rfl, d, _, rfl, hd, z0, z1, bl⟩)⟩, fun H3 s3 => k _ ((g1.sm s02).sm s3)⟩
/-- a call of which TooMany is due -/
theorem ref_many {T : List (Addr × Str)} {q : Str} {CB CN CM b : Addr} {σ : L2.St} {H : Hp} {R : VK} {tb : XK → TE} (bag : Bag H b) (ts : Tabs T H)
    (hb : ∀ H' Q' E', Go T b H H' → RaisedX CM tooM H' E' → tb E' σ H' Q') (k : ∀ H', Go T b H H' → R (.bl true) H') :
    tLamN T q (spRef CB CN CM) (fun _ => C8.E0) tb (tCons (tCall spBadM [] C8.E0 (tCons (tC (V.str (Str.ofString "TooMany"))) (tCons (tLst (tCons (tC (V.str (Str.ofString "things"))) (tCons (tC (V.int 24)) tNil))) tNil))) tNil) σ H R := by
  refine ⟨ts, fun H1 c' e1 t1 hc => ?_⟩
  have g1 := (Go.rf bag ts).xt e1 t1
  simp only [L2.start, cxOf, tRet, tAndV, tOrV, tNotV, tCB, tCons, tNil, tVar, tC, tOp, tUn, tTest, tB, tIf, tIfS, tSeq, tAsg, tAnd, tOr, tNot, gName, tNext, tCall, tChain, rI, rI0, rEq, rNe, rGcd, rU, tM1, tM0, tSl, tPart, tNoPart, gTup, gCons, gNil, gSub, tTup, tLst, tPar, L2.rI, List.map_cons, List.map_nil, List.length_cons, List.length_nil, List.cons_append, List.nil_append, List.append_nil, List.getElem?_cons_zero, List.getElem?_cons_succ, List.set_cons_zero, List.set_cons_succ, Option.some.injEq, exists_eq_left, exists_eq_left', exists_eq_right, exists_and_left, exists_and_right, List.cons.injEq, and_true, true_and, V.int.injEq, V.str.injEq, V.bl.injEq, V.ref.injEq, List.replicate, Nat.reduceAdd, Nat.reduceSub, reduceCtorEq, false_and, and_false, if_true, if_false, Bool.false_eq_true, Bool.not_true, Bool.not_false, decide_eq_true_eq, exists_false, or_false, false_or]
  refine ⟨small (by decide), fun l hl => ⟨l, rfl, upd_same, fun H2 a s2 na bl => ?_⟩⟩
  have s02 := (same_new (o := .lst [V.str (Str.ofString "things"), V.int 24]) hl).trans s2
  refine ⟨a, rfl, fun H3 Q' E' s3 er => ⟨s3 _ _ (s02 _ _ hc), hb _ _ _ ((g1.sm s02).sm s3) fun H4 d s4 nd hd => er _ _ _ s4 (.inr (.inr ⟨rfl, d, rfl, hd, bl⟩))⟩, fun H3 s3 => k _ ((g1.sm s02).sm s3)⟩
/-- what stands while a tree is told -/
structure Tt (T2 : List (Addr × Str)) (C b x d l na ld tx : Addr) (t : P20.PT) (u : List P20.Wd) (H : Hp) : Prop where
  bag : Bag H b
  tabs : Tabs T2 H
  tr : TreeAt C H x t.er
  fine : Fine t.er
  tab : TabAt (fun _ => True) H (P20.rows t) (.ref na)
  land : LandAt H ld u
  lab : P20.Lab u t
  lv : P20.leaves t.er = u
  hd : H d = some (.lst [.ref l, .ref na])
  db : d ≠ b
  hl : H l = some (wordsV u)
  lb : l ≠ b
  htx : H tx = some (wordsV ((P20.nodes t.er).map P20.spell))
  tb : tx ≠ b
theorem Tt.go {T2 : List (Addr × Str)} {C b x d l na ld tx : Addr} {t : P20.PT} {u : List P20.Wd} {H H' : Hp} (s : Tt T2 C b x d l na ld tx t u H) (g : Go T2 b H H') : Tt T2 C b x d l na ld tx t u H' :=
  ⟨g.bag, g.tabs, TreeAt.go s.bag g.keep s.tr, s.fine, s.tab.gt s.bag g.keep, s.land.gt s.bag g.keep, s.lab, s.lv, g.keep _ _ s.db s.hd (fun _ z => by cases z), s.db, g.keep _ _ s.lb s.hl (fun _ z => by cases z), s.lb, g.keep _ _ s.tb s.htx (fun _ z => by cases z), s.tb⟩
theorem Tt.rf {T2 : List (Addr × Str)} {C b x d l na ld tx : Addr} {t : P20.PT} {u : List P20.Wd} {H : Hp} (s : Tt T2 C b x d l na ld tx t u H) : Go T2 b H H := Go.rf s.bag s.tabs
theorem Tt.sm {T2 : List (Addr × Str)} {C b x d l na ld tx : Addr} {t : P20.PT} {u : List P20.Wd} {H H' : Hp} (s : Tt T2 C b x d l na ld tx t u H) (g : Same H H') : Tt T2 C b x d l na ld tx t u H' := s.go (s.rf.sm g)
theorem Tt.ex {T2 : List (Addr × Str)} {C b x d l na ld tx : Addr} {t : P20.PT} {u : List P20.Wd} {H H' : Hp} (s : Tt T2 C b x d l na ld tx t u H) (g : Ex b H H') : Tt T2 C b x d l na ld tx t u H' := s.go (s.rf.ex g)
/-- texts[-1] -/
theorem tx_last {K : PySem.W.Frag} {H : Hp} {tx : Addr} {T : P20.Tr} {R : VK} (h : H tx = some (wordsV ((P20.nodes T).map P20.spell))) (k : R (spV T) H) : rIxL K (.ref tx) (.int (-1)) H R := by
  refine ⟨tx, _, -1, _, rfl, rfl, SqL.of h, at_last (v := spV T) ?_, k⟩
  show ((((P20.nodes T).map P20.spell)).map fun w => V.str (S w)).getLast? = _
  rw [List.map_map, List.getLast?_map, P20.nodes_last]
  rfl
theorem rgV_pl (n : Nat) : rgV 0 (n : Int) = plV (List.range n) := by
  unfold rgV plV
  rw [Int.sub_zero, Int.toNat_natCast]
  refine List.map_congr_left fun i _ => ?_
  rw [Int.zero_add]
end W20

set_option Elab.async false
set_option linter.all false
set_option maxRecDepth 100000
set_option maxHeartbeats 4000000
/-! NB20: _law_tree_right -/
namespace W20
open PySem PySem.Spec PyProof.Rows L2 Lay LamX
open SX (S S_len S_cat S_tl)
open C8 (Cal Mak pe_c pe_mk pe_gc fnScope_by E0)
def q61 : Str := ("_law_tree_right" : Str) ++ (".<locals>." : Str) ++ ("<lambda>" : Str)
def rLn (K : PySem.W.Frag) : List V → Hp → VK → Prop := fun xs H Q => ∃ x n, xs = [x] ∧ LenV K x H n ∧ Q (V.int ((n : Nat) : Int)) H
theorem tup_ne {H : Hp} {a b : Addr} {xs : List V} (g : Bag H b) (h : H a = some (.tup xs)) : a ≠ b := by
  obtain ⟨l, ns, pos, big, mixed, cnt, left, hb, _⟩ := g
  intro z
  rw [z, hb] at h
  cases h
section
variable {P : Program} {w : World} {K : PySem.W.Frag} {mg : Str → Option Value} {base : Heap} {fE fL fI fR CB CN CM : Addr} {fd fdE fdL fdI fdR : FuncData}
theorem sd61 : FnScope ["bag", "text", "due", "made", "land", "nodes", "texts", "one", "told", "lot", "spots", "turn", "k", "words", "word", "other"] ["bag", "text"] (defScope (top 61)) := fnScope_by (by decide +kernel)
def spTreeR (T2 : List (Addr × Str)) : Sp := fun vs H Q _ => ∃ (b : Addr) (a : List Nat), vs = [.ref b, .str (S a)] ∧ Bag H b ∧ Tabs T2 H ∧ a.length ≤ 3000 ∧ (P20.words a).length ≤ 200 ∧ (∀ u ∈ P20.words a, u.length ≤ 10) ∧
  ∀ H', Go T2 b H H' → Q (.bl true) H'
theorem ok_treer (m : Mg K mg) (dk : DigK K) (tc : Tc K mg) (ti : Ti K) (c__law_draw : Cal P w K mg base 1 "_law_draw" spDraw []) (c__law_of : Cal P w K mg base 2 "_law_of" spPick []) (c__law_tokens : Cal P w K mg base 1 "_law_tokens" spTW []) (c__law_read : Cal P w K mg base 3 "_law_read" spRead [])
    (c__law_bad : Cal P w K mg base 1 "_law_bad" spBad []) (c__law_badM : Cal P w K mg base 1 "_law_bad" spBadM []) (c__law_bare_land : Cal P w K mg base 1 "_law_bare_land" spBare []) (c__law_lot_words : Cal P w K mg base 1 "_law_lot_words" spLotW []) (c__law_like : Cal P w K mg base 4 "_law_like" (spLike 4) [])
    (c__law_node_right : Cal P w K mg base 5 "_law_node_right" (spNodeR (cT K)) []) (c__law_absent : Cal P w K mg base 4 "_law_absent" spAbsent []) (c__law_spaced : Cal P w K mg base 3 "_law_spaced" spSpaced [])
    (c_Tree : MakN P w K mg base 4 "Tree" (cT K) (spInit (cT K) CB CM)) (c_refused : CalL P w K mg base 9 7 "_law_refused" (spRef CB CN CM))
    (EF : FnOk P w K mg base C8.CX0 1 fE fdE ["self", "other"] (spEqA K (cT K))) (eAt : PySem.W.findIn K (.ref (cT K)) "__eq__" = some (some (.ref fE))) (eFn : PySem.W.isFn K (.ref fE) = true) (eB : Binds K fdE ["self", "other"] [])
    (FR : FnOk P w K mg base C8.CX0 1 fR fdR ["self"] (spRepr (cT K))) (rAt : PySem.W.findIn K (.ref (cT K)) "__repr__" = some (some (.ref fR))) (rFn : PySem.W.isFn K (.ref fR) = true) (rB : Binds K fdR ["self"] [])
    (itc : ItO2 K (cT K) fI fL) (FI : FnOk P w K mg base C8.CX0 1 fI fdI ["self"] (spTIter (cT K))) (bI : Binds K fdI ["self"] []) (FL : FnOk P w K mg base C8.CX0 1 fL fdL ["self"] (spTLen (cT K))) (bL : Binds K fdL ["self"] [])
    (F : FunD K "_law_tree_right" "_law_tree_right" (defArgs (top 61)) (defBody (top 61)) (defScope (top 61)) [] [] (He.fAd K ("_law_tree_right", none)) fd) (g : mg "_law_tree_right" = some (.ref (He.fAd K ("_law_tree_right", none)))) {c Pt : Addr} {T2 : List (Addr × Str)} (memT : (Pt, q61) ∈ T2) (huT : ∀ p ∈ T2, p.1 = Pt → p.2 = q61)
    (c__law_absent_right : Cal P w K mg base 11 "_law_absent_right" (spAbsR (cT K) T2) [])
    (hcT : He.codeOf K ("_law_tree_right", none) = c) (TB : TabB base mg c Pt) : Cal P w K mg base 12 "_law_tree_right" (spTreeR T2) [] := by
  have sc := sd61
  have kp := F.kp
  have bb := F.bindsN (ps := ["bag", "text"]) fun _ _ _ _ _ _ us hl => match us, hl with | [_, _], _ => rfl
  obtain ⟨oc, od, dV, kV, doc, pm, an, cdv, ct, osl, rfl, lk, hcd, _, _⟩ := F.ex
  obtain ⟨c0, rfl⟩ := He.codeIn_ref hcd
  obtain rfl : c0 = c := by rw [← hcT]; exact (He.codeOf_eq lk rfl).symm
  obtain ⟨gTf, gTd, gTp, fT, gT, kpT, bT⟩ := c_refused.ex
  have tiM := ti.mo
  have tiN := ti.ne
  refine ⟨He.fAd K ("_law_tree_right", none), _, ["bag", "text"], [], fn_of (k := 11) lk hcd sc ?_ fun A outer s H vs Q E hr h => ?_, g, kp, bb, .nil⟩
  · rintro vs H Q E ⟨b, a, rfl, _⟩
    rfl
  · obtain ⟨b, a, rfl, bag, tb, al, fw, ow, q⟩ := h
    refine ⟨_, PSs.nox (pss_cons (ps_set (i := 2) sc.nd rfl (.inl rfl) (pe_c c__law_read hr (by omega) (by rfl) (pa_cons (pe_c c__law_tokens hr (by omega) (by rfl) (pa_cons (pv 1) pa_nil)) pa_nil)))
      (pss_cons (ps_if (pt_cmpR op_isN (pv 2) pe_non (nomark _))
        (pss_one (ps_ret (pe_lamN (CXL := L2N.CX P w) (T := T2) (E := fun _ => C8.E0) fT (hr.mono (by omega)) (by rfl) gT kpT bT (fun _ _ _ _ _ _ _ h => h.elim) TB rfl memT huT (lamS_by (sc := defScope (top 61)) (by decide +kernel)) (by rfl) (fun _ _ _ _ _ => by rfl) (fun A outer s H E f c' r => pe_mkN c_Tree r (by decide) (by rfl) (takesL rfl rfl) (pa_cons (pv 1) pa_nil)) (pa_cons (pe_c c__law_bad hr (by omega) (by rfl) (pa_cons pe_str (pa_cons (pe_lst pa_nil) pa_nil))) pa_nil))))
        pss_nil)
      (pss_cons (ps_if (pt_cmpR op_gt (pe_callB call_len (by rfl) m.len_ boot_len (pa_cons (pe_ix ix_list (pv 2) pe_int (fun _ _ => rfl)) pa_nil)) pe_int (nomark _))
        (pss_one (ps_ret (pe_lamN (CXL := L2N.CX P w) (T := T2) (E := fun _ => C8.E0) fT (hr.mono (by omega)) (by rfl) gT kpT bT (fun _ _ _ _ _ _ _ h => h.elim) TB rfl memT huT (lamS_by (sc := defScope (top 61)) (by decide +kernel)) (by rfl) (fun _ _ _ _ _ => by rfl) (fun A outer s H E f c' r => pe_mkN c_Tree r (by decide) (by rfl) (takesL rfl rfl) (pa_cons (pv 1) pa_nil)) (pa_cons (pe_c c__law_badM hr (by omega) (by rfl) (pa_cons pe_str (pa_cons (pe_lst (pa_cons pe_str (pa_cons pe_int pa_nil))) pa_nil))) pa_nil))))
        pss_nil)
      (pss_cons (ps_set (i := 3) sc.nd rfl (.inl rfl) (pe_mkN0 c_Tree hr (by omega) (by rfl) (pa_cons (pv 1) pa_nil)))
      (pss_cons (ps_set (i := 4) sc.nd rfl (.inl rfl) (pe_c c__law_bare_land hr (by omega) (by rfl) (pa_cons (pe_ix ix_list (pv 2) pe_int (fun _ _ => rfl)) pa_nil)))
      (pss_cons (ps_set (i := 5) sc.nd rfl (.inr rfl) (pe_ix ix_list (pv 2) pe_int (fun _ _ => rfl)))
      (pss_cons (ps_setLc (i := 6) (own := [("one", 7)]) (g := gName 7) (by rfl) sc.nd rfl rfl (sw_true rfl rfl rfl (by decide +kernel)) (pi_list (pv 5)) (blkOk_by (own := [("one", 7)]) (N := ["bag", "text", "due", "made", "land", "nodes", "texts", "one", "told", "lot", "spots", "turn", "k", "words", "word", "other"]) (sc := defScope (top 61)) (by decide +kernel)) (fun _ _ _ _ _ => pg_name (i := 7) sc.nd rfl (.inl rfl)) (fun _ _ _ _ _ => pts_nil) (fun _ _ _ _ _ => pe_ix (show IxR _ (rIxL K) from ix_list) (pv 7) pe_int (fun _ _ => rfl)))
      (pss_cons (ps_set (i := 8) sc.nd rfl (.inl rfl) (pe_lst (pa_cons (pe_fld (pv 3) rfl) (pa_cons (pe_fld (pv 3) rfl) (pa_cons (pe_fld (pv 3) rfl) (pa_cons (pe_fld (pv 3) rfl) (pa_cons (pe_callB (call_lenX itc FL bL (hr.mono (by omega))) (by rfl) m.len_ boot_len (pa_cons (pv 3) pa_nil)) (pa_cons (pe_callTy (call_listOwn2 rfl itc FI bI FL bL (hr.mono (by omega))) (by rfl) m.list_ boot_list (pa_cons (pv 3) pa_nil)) (pa_cons (pe_callB (call_reprX FR rAt rFn rB (hr.mono (by omega))) (by rfl) m.repr_ boot_repr (pa_cons (pv 3) pa_nil)) pa_nil)))))))))
      (pss_cons (ps_set (i := 9) sc.nd rfl (.inl rfl) (pe_c c__law_lot_words hr (by omega) (by rfl) (pa_cons (pv 4) (pa_cons (pe_ix ix_list (pe_ix ix_list (pv 5) (pe_un un_neg pe_int) (fun _ _ => rfl)) pe_int (fun _ _ => rfl)) pa_nil))))
      (pss_cons (ps_if (pt_not (pt_val (pe_c c__law_like hr (by omega) (by rfl) (pa_cons (pv 8) (pa_cons (pe_lst (pa_cons (pe_ix ix_list (pv 6) (pe_un un_neg pe_int) (fun _ _ => rfl)) (pa_cons (pe_ix ix_list (pv 6) (pe_un un_neg pe_int) (fun _ _ => rfl)) (pa_cons (pe_callTy call_tuple_of (by rfl) m.tuple_ boot_tuple (pa_cons (pv 6) pa_nil)) (pa_cons (pv 9) (pa_cons (pe_callB call_len (by rfl) m.len_ boot_len (pa_cons (pv 9) pa_nil)) (pa_cons (pv 6) (pa_cons (pe_op op_add_str (pe_op op_add_str pe_str (pe_ix ix_list (pv 6) (pe_un un_neg pe_int) (fun _ _ => rfl))) pe_str) pa_nil)))))))) pa_nil)))))
        (pss_one (ps_ret pe_bl))
        pss_nil)
      (pss_cons (ps_set (i := 10) sc.nd rfl (.inl rfl) (pe_listRg rfl (by rfl) m.list_ (prg_1 (by rfl) m.range_ (pe_callB call_len (by rfl) m.len_ boot_len (pa_cons (pv 5) pa_nil)))))
      (pss_cons (ps_if (pt_cmpR op_gt (pe_callB call_len (by rfl) m.len_ boot_len (pa_cons (pv 5) pa_nil)) pe_int (nomark _))
        (pss_one (ps_setLc (i := 10) (own := [("turn", 11)]) (g := gName 11) (by rfl) sc.nd rfl rfl (sw_true rfl rfl rfl (by decide +kernel)) (pi_range1 rfl m.range_ (pa_cons pe_int pa_nil)) (blkOk_by (own := [("turn", 11)]) (N := ["bag", "text", "due", "made", "land", "nodes", "texts", "one", "told", "lot", "spots", "turn", "k", "words", "word", "other"]) (sc := defScope (top 61)) (by decide +kernel)) (fun _ _ _ _ _ => pg_name (i := 11) sc.nd rfl (.inl rfl)) (fun _ _ _ _ _ => pts_nil) (fun _ _ _ _ _ => pe_c c__law_draw hr (by omega) (by rfl) (pa_cons (pv 0) (pa_cons (pe_callB (show CallR _ (.builtin "len") (rLn K) from call_len) (by rfl) m.len_ boot_len (pa_cons (pv 5) pa_nil)) pa_nil)))))
        pss_nil)
      (pss_cons (ps_for pown rfl (pi_list (pv 10)) (pg_name (i := 12) sc.nd rfl (.inl rfl))
        (pss_one (ps_if (pt_not (pt_val (pe_c c__law_node_right hr (by omega) (by rfl) (pa_cons (pv 3) (pa_cons (pv 5) (pa_cons (pv 4) (pa_cons (pv 12) pa_nil)))))))
          (pss_one (ps_ret pe_bl))
          pss_nil)))
      (pss_cons (ps_set (i := 7) sc.nd rfl (.inl rfl) (pe_c c__law_of hr (by omega) (by rfl) (pa_cons (pv 0) (pa_cons (pv 5) pa_nil))))
      (pss_cons (ps_set (i := 13) sc.nd rfl (.inl rfl) (pe_lst (pa_cons (pe_c c__law_absent hr (by omega) (by rfl) (pa_cons (pv 0) (pa_cons (pe_ix ix_list (pv 2) pe_int (fun _ _ => rfl)) pa_nil))) (pa_cons pe_str (pa_cons (pe_op op_add_str (pe_ix ix_list (pv 7) pe_int (fun _ _ => rfl)) pe_str) (pa_cons (pe_op op_add_str (pe_op op_add_str pe_str (pe_ix ix_list (pv 7) pe_int (fun _ _ => rfl))) pe_str) (pa_cons (pe_op op_add_str (pe_op op_add_str (pe_op op_add_str (pe_op op_add_str pe_str (pe_ix ix_list (pv 6) pe_int (fun _ _ => rfl))) pe_str) (pe_ix ix_list (pv 6) pe_int (fun _ _ => rfl))) pe_str) pa_nil)))))))
      (pss_cons (ps_if (pt_cmpR op_ge (pe_ix ix_list (pv 7) pe_int (fun _ _ => rfl)) pe_int (nomark _))
        (pss_cons (ps_expr (pe_bm PySem.F.plainAttrs_list PySem.F.slot_list_append PySem.F.type_list_append mt_append (pv 13) (pa_cons (pe_op op_add_str (pe_op op_add_str (pe_op op_add_str (pe_op op_add_str pe_str (pe_ix ix_list (pe_ix ix_list (pv 5) (pe_ix ix_list (pv 7) pe_int (fun _ _ => rfl)) (fun _ _ => rfl)) pe_int (fun _ _ => rfl))) pe_str) (pe_ix ix_list (pe_ix ix_list (pv 5) (pe_ix ix_list (pv 7) pe_int (fun _ _ => rfl)) (fun _ _ => rfl)) pe_int (fun _ _ => rfl))) pe_str) pa_nil)))
        (pss_one (ps_expr (pe_bm PySem.F.plainAttrs_list PySem.F.slot_list_append PySem.F.type_list_append mt_append (pv 13) (pa_cons (pe_replI ix_list (pv 7)) pa_nil)))))
        pss_nil)
      (pss_cons (ps_for pown rfl (pi_list (pv 13)) (pg_name (i := 14) sc.nd rfl (.inl rfl))
        (pss_one (ps_if (pt_not (pt_val (pe_c c__law_absent_right hr (by omega) (by rfl) (pa_cons (pv 0) (pa_cons (pv 3) (pa_cons (pv 5) (pa_cons (pv 14) pa_nil)))))))
          (pss_one (ps_ret pe_bl))
          pss_nil)))
      (pss_cons (ps_set (i := 15) sc.nd rfl (.inl rfl) (pe_mkN0 c_Tree hr (by omega) (by rfl) (pa_cons (pe_c c__law_spaced hr (by omega) (by rfl) (pa_cons (pv 0) (pa_cons (pe_c c__law_tokens hr (by omega) (by rfl) (pa_cons (pv 1) pa_nil)) pa_nil))) pa_nil)))
      (pss_one (ps_ret (pe_c c__law_like hr (by omega) (by rfl) (pa_cons (pe_lst (pa_cons (pe_cmpR (op_eqX EF eAt eFn eB (hr.mono (by omega))) (pv 3) (pv 15) (nomark _)) (pa_cons (pe_cmpR (op_neX EF eAt eFn eB tiM tiN (hr.mono (by omega))) (pv 3) (pv 15) (nomark _)) (pa_cons (pe_cmpR (op_eqX EF eAt eFn eB (hr.mono (by omega))) (pv 3) (pe_ix ix_list (pv 6) (pe_un un_neg pe_int) (fun _ _ => rfl)) (nomark _)) (pa_cons (pe_cmpR (op_eqX EF eAt eFn eB (hr.mono (by omega))) (pv 3) (pe_tup (pa_cons (pe_ix ix_list (pv 6) (pe_un un_neg pe_int) (fun _ _ => rfl)) pa_nil)) (nomark _)) (pa_cons (pe_cmpR (op_eqX EF eAt eFn eB (hr.mono (by omega))) (pv 3) (pe_callB call_len (by rfl) m.len_ boot_len (pa_cons (pv 9) pa_nil)) (nomark _)) pa_nil)))))) (pa_cons (pe_lst (pa_cons pe_bl (pa_cons pe_bl (pa_cons pe_bl (pa_cons pe_bl (pa_cons pe_bl pa_nil)))))) pa_nil))))))))))))))))))))))), ?_⟩
    have szl := sizeLine_eq
    have g0 : Go T2 b H H := Go.rf bag tb
    refine seq_cut (fun σ' H' => ∃ dv, σ' = [some (.ref b), some (.str (S a)), some dv, none, none, none, none, none, none, none, none, none, none, none, none, none] ∧ Go T2 b H H' ∧ ((dv = .non ∧ P20.readOf nameB (P20.words a) = none) ∨ ∃ d l na t u, dv = .ref d ∧ P20.readOf nameB (P20.words a) = some (u, P20.PT.er t) ∧ H' d = some (.lst [.ref l, .ref na]) ∧ d ≠ b ∧ H' l = some (wordsV u) ∧ l ≠ b ∧ P20.Lab u t ∧ TabAt (fun _ => True) H' (P20.rows t) (.ref na))) (fun D' hrt hn => ?_) ?_
    · simp only [L2.start, cxOf, tRet, tAndV, tOrV, tNotV, tCB, tCons, tNil, tVar, tC, tOp, tUn, tTest, tB, tIf, tIfS, tSeq, tAsg, tAnd, tOr, tNot, gName, tNext, tCall, tChain, rI, rI0, rEq, rNe, rGcd, rU, tM1, tM0, tSl, tPart, tNoPart, gTup, gCons, gNil, gSub, tTup, tLst, tPar, L2.rI, List.map_cons, List.map_nil, List.length_cons, List.length_nil, List.cons_append, List.nil_append, List.append_nil, List.getElem?_cons_zero, List.getElem?_cons_succ, List.set_cons_zero, List.set_cons_succ, Option.some.injEq, exists_eq_left, exists_eq_left', exists_eq_right, exists_and_left, exists_and_right, List.cons.injEq, and_true, true_and, V.int.injEq, V.str.injEq, V.bl.injEq, V.ref.injEq, List.replicate, Nat.reduceAdd, Nat.reduceSub, reduceCtorEq, false_and, and_false, if_true, if_false, Bool.false_eq_true, Bool.not_true, Bool.not_false, decide_eq_true_eq, exists_false, or_false, false_or]
      refine ⟨a, rfl, by omega, fun H1 tl s1 n1 h1 => ⟨tl, P20.words a, rfl, h1, by omega, ow, fun rn H2 s2 => ?_, fun u T rs H2 d l v pt s2 nd hd hl ne nl er lab tab => ?_⟩⟩
      · exact hn _ _ ⟨_, rfl, g0.sm (s1.trans s2), .inl ⟨rfl, rn⟩⟩
      · subst er
        obtain ⟨na, us, rfl, z⟩ := id tab
        exact hn _ _ ⟨_, rfl, g0.sm (s1.trans s2), .inr ⟨d, l, na, pt, u, rfl, rs, hd, new_ne bag (s1.free nd), hl, new_ne bag (s1.free nl), lab, tab⟩⟩
    rintro σ' H1 ⟨dv, rfl, g1, alt⟩
    have ow2 : ∀ u ∈ P20.words a, u.length ≤ 100000 := fun u hu => by have := ow u hu; omega
    rcases alt with ⟨rfl, rn⟩ | ⟨d, l, na, t, u, rfl, rs, hd, db, hl, lb, lab, tab⟩
    · simp only [L2.start, cxOf, tRet, tAndV, tOrV, tNotV, tCB, tCons, tNil, tVar, tC, tOp, tUn, tTest, tB, tSeq, tAsg, tNot, gName, tNext, tCall, tChain, rI, rI0, rEq, rNe, rGcd, rU, tM1, tM0, tSl, tPart, tNoPart, gTup, gCons, gNil, gSub, tTup, tLst, tPar, L2.rI, List.map_cons, List.map_nil, List.length_cons, List.length_nil, List.cons_append, List.nil_append, List.append_nil, List.getElem?_cons_zero, List.getElem?_cons_succ, List.set_cons_zero, List.set_cons_succ, Option.some.injEq, exists_eq_left, exists_eq_left', exists_eq_right, exists_and_left, exists_and_right, List.cons.injEq, and_true, true_and, V.int.injEq, V.str.injEq, V.bl.injEq, V.ref.injEq, List.replicate, Nat.reduceAdd, Nat.reduceSub, reduceCtorEq, false_and, and_false, if_true, if_false, Bool.false_eq_true, Bool.not_true, Bool.not_false, decide_eq_true_eq, exists_false, or_false, false_or, tIfS]
      refine ref_bad g1.bag g1.tabs (fun H' Q' E' g er => ?_) fun H' g => q _ (g1.tr g)
      simp only [tMakeS, WE, L2.start, cxOf, tRet, tAndV, tOrV, tNotV, tCB, tCons, tNil, tVar, tC, tOp, tUn, tTest, tB, tIf, tIfS, tSeq, tAsg, tAnd, tOr, tNot, gName, tNext, tCall, tChain, rI, rI0, rEq, rNe, rGcd, rU, tM1, tM0, tSl, tPart, tNoPart, gTup, gCons, gNil, gSub, tTup, tLst, tPar, L2.rI, List.map_cons, List.map_nil, List.length_cons, List.length_nil, List.cons_append, List.nil_append, List.append_nil, List.getElem?_cons_zero, List.getElem?_cons_succ, List.set_cons_zero, List.set_cons_succ, Option.some.injEq, exists_eq_left, exists_eq_left', exists_eq_right, exists_and_left, exists_and_right, List.cons.injEq, and_true, true_and, V.int.injEq, V.str.injEq, V.bl.injEq, V.ref.injEq, List.replicate, Nat.reduceAdd, Nat.reduceSub, reduceCtorEq, false_and, and_false, if_true, if_false, Bool.false_eq_true, Bool.not_true, Bool.not_false, decide_eq_true_eq, exists_false, or_false, false_or]
      refine fun y dy hy hdy ney => mk_bad (P20.read_none rn) (by omega) (by omega) ow2 ?_ y dy hy hdy ney
      exact fun G d s5 n5 e5 => er _ (by decide +kernel) (by decide +kernel) G d s5 n5 e5
    obtain ⟨ew, elv, good, nd0⟩ := P20.read_sound (fun w h => name_of h) rs
    have nd := elv.symm ▸ nd0
    refine seq_cut (fun σ' H' => σ' = [some (.ref b), some (.str (S a)), some (.ref d), none, none, none, none, none, none, none, none, none, none, none, none, none] ∧ H1 = H') (fun D' hrt hn => ?_) ?_
    · simp only [L2.start, cxOf, tRet, tAndV, tOrV, tNotV, tCB, tCons, tNil, tVar, tC, tOp, tUn, tTest, tB, tIf, tIfS, tSeq, tAsg, tAnd, tOr, tNot, gName, tNext, tCall, tChain, rI, rI0, rEq, rNe, rGcd, rU, tM1, tM0, tSl, tPart, tNoPart, gTup, gCons, gNil, gSub, tTup, tLst, tPar, L2.rI, List.map_cons, List.map_nil, List.length_cons, List.length_nil, List.cons_append, List.nil_append, List.append_nil, List.getElem?_cons_zero, List.getElem?_cons_succ, List.set_cons_zero, List.set_cons_succ, Option.some.injEq, exists_eq_left, exists_eq_left', exists_eq_right, exists_and_left, exists_and_right, List.cons.injEq, and_true, true_and, V.int.injEq, V.str.injEq, V.bl.injEq, V.ref.injEq, List.replicate, Nat.reduceAdd, Nat.reduceSub, reduceCtorEq, false_and, and_false, if_true, if_false, Bool.false_eq_true, Bool.not_true, Bool.not_false, decide_eq_true_eq, exists_false, or_false, false_or, tIfS]
      exact hn _ _ ⟨rfl, rfl⟩
    rintro σ' _ ⟨rfl, rfl⟩
    have lu : LenV K (.ref l) H1 u.length := by
      have := len_L (K := K) (SqL.of hl)
      rwa [List.length_map] at this
    by_cases many : 24 < u.length
    · simp only [L2.start, cxOf, tRet, tAndV, tOrV, tNotV, tCB, tCons, tNil, tVar, tC, tOp, tUn, tTest, tB, tSeq, tAsg, tNot, gName, tNext, tCall, tChain, rI, rI0, rEq, rNe, rGcd, rU, tM1, tM0, tSl, tPart, tNoPart, gTup, gCons, gNil, gSub, tTup, tLst, tPar, L2.rI, List.map_cons, List.map_nil, List.length_cons, List.length_nil, List.cons_append, List.nil_append, List.append_nil, List.getElem?_cons_zero, List.getElem?_cons_succ, List.set_cons_zero, List.set_cons_succ, Option.some.injEq, exists_eq_left, exists_eq_left', exists_eq_right, exists_and_left, exists_and_right, List.cons.injEq, and_true, true_and, V.int.injEq, V.str.injEq, V.bl.injEq, V.ref.injEq, List.replicate, Nat.reduceAdd, Nat.reduceSub, reduceCtorEq, false_and, and_false, if_true, if_false, Bool.false_eq_true, Bool.not_true, Bool.not_false, decide_eq_true_eq, exists_false, or_false, false_or, tIfS]
      refine ixL (SqL.of hd) 0 rfl ⟨_, lu, ?_⟩
      rw [if_pos (by omega)]
      refine ref_many g1.bag g1.tabs (fun H' Q' E' g er => ?_) fun H' g => q _ (g1.tr g)
      simp only [tMakeS, WE, L2.start, cxOf, tRet, tAndV, tOrV, tNotV, tCB, tCons, tNil, tVar, tC, tOp, tUn, tTest, tB, tIf, tIfS, tSeq, tAsg, tAnd, tOr, tNot, gName, tNext, tCall, tChain, rI, rI0, rEq, rNe, rGcd, rU, tM1, tM0, tSl, tPart, tNoPart, gTup, gCons, gNil, gSub, tTup, tLst, tPar, L2.rI, List.map_cons, List.map_nil, List.length_cons, List.length_nil, List.cons_append, List.nil_append, List.append_nil, List.getElem?_cons_zero, List.getElem?_cons_succ, List.set_cons_zero, List.set_cons_succ, Option.some.injEq, exists_eq_left, exists_eq_left', exists_eq_right, exists_and_left, exists_and_right, List.cons.injEq, and_true, true_and, V.int.injEq, V.str.injEq, V.bl.injEq, V.ref.injEq, List.replicate, Nat.reduceAdd, Nat.reduceSub, reduceCtorEq, false_and, and_false, if_true, if_false, Bool.false_eq_true, Bool.not_true, Bool.not_false, decide_eq_true_eq, exists_false, or_false, false_or]
      refine fun y dy hy hdy ney => mk_many ew (by omega) (by omega) ow2 good nd (by rw [elv]; exact many) ?_ y dy hy hdy ney
      exact fun G d s5 n5 e5 => er G d s5 n5 e5
    refine seq_cut (fun σ' H' => σ' = [some (.ref b), some (.str (S a)), some (.ref d), none, none, none, none, none, none, none, none, none, none, none, none, none] ∧ H1 = H') (fun D' hrt hn => ?_) ?_
    · simp only [L2.start, cxOf, tRet, tAndV, tOrV, tNotV, tCB, tCons, tNil, tVar, tC, tOp, tUn, tTest, tB, tSeq, tAsg, tNot, gName, tNext, tCall, tChain, rI, rI0, rEq, rNe, rGcd, rU, tM1, tM0, tSl, tPart, tNoPart, gTup, gCons, gNil, gSub, tTup, tLst, tPar, L2.rI, List.map_cons, List.map_nil, List.length_cons, List.length_nil, List.cons_append, List.nil_append, List.append_nil, List.getElem?_cons_zero, List.getElem?_cons_succ, List.set_cons_zero, List.set_cons_succ, Option.some.injEq, exists_eq_left, exists_eq_left', exists_eq_right, exists_and_left, exists_and_right, List.cons.injEq, and_true, true_and, V.int.injEq, V.str.injEq, V.bl.injEq, V.ref.injEq, List.replicate, Nat.reduceAdd, Nat.reduceSub, reduceCtorEq, false_and, and_false, if_true, if_false, Bool.false_eq_true, Bool.not_true, Bool.not_false, decide_eq_true_eq, exists_false, or_false, false_or, tIfS]
      refine ixL (SqL.of hd) 0 rfl ⟨_, lu, ?_⟩
      rw [if_neg (by omega)]
      exact hn _ _ ⟨rfl, rfl⟩
    rintro σ' _ ⟨rfl, rfl⟩
    have fine : Fine t.er := ⟨good, nd, by rw [elv]; omega⟩
    refine seq_cut (fun σ' H' => ∃ x, σ' = [some (.ref b), some (.str (S a)), some (.ref d), some (.ref x), none, none, none, none, none, none, none, none, none, none, none, none] ∧ Same H1 H' ∧ TreeAt (cT K) H' x t.er) (fun D' hrt hn => ?_) ?_
    · simp only [L2.start, cxOf, tRet, tAndV, tOrV, tNotV, tCB, tCons, tNil, tVar, tC, tOp, tUn, tTest, tB, tIf, tIfS, tSeq, tAsg, tAnd, tOr, tNot, gName, tNext, tCall, tChain, rI, rI0, rEq, rNe, rGcd, rU, tM1, tM0, tSl, tPart, tNoPart, gTup, gCons, gNil, gSub, tTup, tLst, tPar, L2.rI, List.map_cons, List.map_nil, List.length_cons, List.length_nil, List.cons_append, List.nil_append, List.append_nil, List.getElem?_cons_zero, List.getElem?_cons_succ, List.set_cons_zero, List.set_cons_succ, Option.some.injEq, exists_eq_left, exists_eq_left', exists_eq_right, exists_and_left, exists_and_right, List.cons.injEq, and_true, true_and, V.int.injEq, V.str.injEq, V.bl.injEq, V.ref.injEq, List.replicate, Nat.reduceAdd, Nat.reduceSub, reduceCtorEq, false_and, and_false, if_true, if_false, Bool.false_eq_true, Bool.not_true, Bool.not_false, decide_eq_true_eq, exists_false, or_false, false_or, tMakeS]
      exact mk_tree ew (by omega) good nd fine.few fun H2 x s2 nx tr => hn _ _ ⟨x, rfl, s2, tr⟩
    rintro σ' H2 ⟨x, rfl, s2, tr2⟩
    refine seq_cut (fun σ' H' => ∃ ld, σ' = [some (.ref b), some (.str (S a)), some (.ref d), some (.ref x), some (.ref ld), none, none, none, none, none, none, none, none, none, none, none] ∧ Same H2 H' ∧ LandAt H' ld u) (fun D' hrt hn => ?_) ?_
    · simp only [L2.start, cxOf, tRet, tAndV, tOrV, tNotV, tCB, tCons, tNil, tVar, tC, tOp, tUn, tTest, tB, tIf, tIfS, tSeq, tAsg, tAnd, tOr, tNot, gName, tNext, tCall, tChain, rI, rI0, rEq, rNe, rGcd, rU, tM1, tM0, tSl, tPart, tNoPart, gTup, gCons, gNil, gSub, tTup, tLst, tPar, L2.rI, List.map_cons, List.map_nil, List.length_cons, List.length_nil, List.cons_append, List.nil_append, List.append_nil, List.getElem?_cons_zero, List.getElem?_cons_succ, List.set_cons_zero, List.set_cons_succ, Option.some.injEq, exists_eq_left, exists_eq_left', exists_eq_right, exists_and_left, exists_and_right, List.cons.injEq, and_true, true_and, V.int.injEq, V.str.injEq, V.bl.injEq, V.ref.injEq, List.replicate, Nat.reduceAdd, Nat.reduceSub, reduceCtorEq, false_and, and_false, if_true, if_false, Bool.false_eq_true, Bool.not_true, Bool.not_false, decide_eq_true_eq, exists_false, or_false, false_or]
      exact ixL (SqL.of (s2 _ _ hd)) 0 rfl ⟨l, u, rfl, s2 _ _ hl, by omega, fun H3 ld s3 n3 h3 => hn _ _ ⟨ld, rfl, s3, h3⟩⟩
    rintro σ' H3 ⟨ld, rfl, s3, land3⟩
    have s23 := s2.trans s3
    refine seq_cut (fun σ' H' => σ' = [some (.ref b), some (.str (S a)), some (.ref d), some (.ref x), some (.ref ld), some (.ref na), none, none, none, none, none, none, none, none, none, none] ∧ H3 = H') (fun D' hrt hn => ?_) ?_
    · simp only [L2.start, cxOf, tRet, tAndV, tOrV, tNotV, tCB, tCons, tNil, tVar, tC, tOp, tUn, tTest, tB, tIf, tIfS, tSeq, tAsg, tAnd, tOr, tNot, gName, tNext, tCall, tChain, rI, rI0, rEq, rNe, rGcd, rU, tM1, tM0, tSl, tPart, tNoPart, gTup, gCons, gNil, gSub, tTup, tLst, tPar, L2.rI, List.map_cons, List.map_nil, List.length_cons, List.length_nil, List.cons_append, List.nil_append, List.append_nil, List.getElem?_cons_zero, List.getElem?_cons_succ, List.set_cons_zero, List.set_cons_succ, Option.some.injEq, exists_eq_left, exists_eq_left', exists_eq_right, exists_and_left, exists_and_right, List.cons.injEq, and_true, true_and, V.int.injEq, V.str.injEq, V.bl.injEq, V.ref.injEq, List.replicate, Nat.reduceAdd, Nat.reduceSub, reduceCtorEq, false_and, and_false, if_true, if_false, Bool.false_eq_true, Bool.not_true, Bool.not_false, decide_eq_true_eq, exists_false, or_false, false_or]
      exact ixL (SqL.of (s23 _ _ hd)) 1 rfl (hn _ _ ⟨rfl, rfl⟩)
    rintro σ' _ ⟨rfl, rfl⟩
    obtain ⟨w0, nv, ew0, _, hna, hrs⟩ := id (tab.same s23)
    cases ew0
    have lr := P20.rows_len t
    have ln := P20.subs_len t
    have fnn := fine.nodes
    have lnv : (P20.rows t).length = nv.length := hrs.length
    refine seq_cut (fun σ' H' => ∃ tx, σ' = [some (.ref b), some (.str (S a)), some (.ref d), some (.ref x), some (.ref ld), some (.ref na), some (.ref tx), none, none, none, none, none, none, none, none, none] ∧ Go T2 b H H' ∧ Tt T2 (cT K) b x d l na ld tx t u H') (fun D' hrt hn => ?_) ?_
    · simp only [L2.start, cxOf, tRet, tAndV, tOrV, tNotV, tCB, tCons, tNil, tVar, tC, tOp, tUn, tTest, tB, tIf, tIfS, tSeq, tAsg, tAnd, tOr, tNot, gName, tNext, tCall, tChain, rI, rI0, rEq, rNe, rGcd, rU, tM1, tM0, tSl, tPart, tNoPart, gTup, gCons, gNil, gSub, tTup, tLst, tPar, L2.rI, List.map_cons, List.map_nil, List.length_cons, List.length_nil, List.cons_append, List.nil_append, List.append_nil, List.getElem?_cons_zero, List.getElem?_cons_succ, List.set_cons_zero, List.set_cons_succ, Option.some.injEq, exists_eq_left, exists_eq_left', exists_eq_right, exists_and_left, exists_and_right, List.cons.injEq, and_true, true_and, V.int.injEq, V.str.injEq, V.bl.injEq, V.ref.injEq, List.replicate, Nat.reduceAdd, Nat.reduceSub, reduceCtorEq, false_and, and_false, if_true, if_false, Bool.false_eq_true, Bool.not_true, Bool.not_false, decide_eq_true_eq, exists_false, or_false, false_or]
      refine lc_texts (v := 7) (t := t) (fun R k => ⟨_, rfl, k⟩) hna hrs (by omega) (fun x => rfl) (fun y H1 R k => ⟨_, rfl, k⟩) fun D H4 hD s4 e4 => ?_
      have g4 := (g1.sm s23).sm s4
      exact hn _ _ ⟨D, rfl, g4, g4.bag, g4.tabs, tr2.same (s3.trans s4), fine, tab.same (s23.trans s4), land3.same s4, lab, elv, (s23.trans s4) _ _ hd, db, (s23.trans s4) _ _ hl, lb, e4, new_ne (g1.sm s23).bag hD⟩
    clear hna hrs
    rintro σ' H4 ⟨tx, rfl, g4, st4⟩
    have few := fine.few
    have slen := fine.len
    have lpl := P20.leaves_pl t
    have lvn : (P20.leaves t.er).length = u.length := by rw [elv]
    have rp : S ([84, 114, 101, 101, 40] ++ P20.spell t.er ++ [41]) = ("Tree(" : Str) ++ S (P20.spell t.er) ++ (")" : Str) := by
      have e1 : ("Tree(" : Str) = S [84, 114, 101, 101, 40] := by decide +kernel
      have e2 : (")" : Str) = S [41] := by decide +kernel
      rw [e1, e2, S_cat, S_cat]
    refine seq_cut (fun σ' H' => ∃ tl nd lv q1, σ' = [some (.ref b), some (.str (S a)), some (.ref d), some (.ref x), some (.ref ld), some (.ref na), some (.ref tx), none, some (.ref tl), none, none, none, none, none, none, none] ∧ Same H4 H' ∧ H' tl = some (.lst [spV t.er, spV t.er, .ref nd, .ref lv, .int (((P20.leaves t.er).length : Nat) : Int), .ref q1, .str (S ([84, 114, 101, 101, 40] ++ P20.spell t.er ++ [41]))]) ∧
        H' nd = some (.tup (wV ((P20.nodes t.er).map P20.spell))) ∧ H' lv = some (.tup (wV (P20.leaves t.er))) ∧ H' q1 = some (wordsV ((P20.nodes t.er).map P20.spell))) (fun D' hrt hn => ?_) ?_
    · simp only [L2.start, cxOf, tRet, tAndV, tOrV, tNotV, tCB, tCons, tNil, tVar, tC, tOp, tUn, tTest, tB, tIf, tIfS, tSeq, tAsg, tAnd, tOr, tNot, gName, tNext, tCall, tChain, rI, rI0, rEq, rNe, rGcd, rU, tM1, tM0, tSl, tPart, tNoPart, gTup, gCons, gNil, gSub, tTup, tLst, tPar, L2.rI, List.map_cons, List.map_nil, List.length_cons, List.length_nil, List.cons_append, List.nil_append, List.append_nil, List.getElem?_cons_zero, List.getElem?_cons_succ, List.set_cons_zero, List.set_cons_succ, Option.some.injEq, exists_eq_left, exists_eq_left', exists_eq_right, exists_and_left, exists_and_right, List.cons.injEq, and_true, true_and, V.int.injEq, V.str.injEq, V.bl.injEq, V.ref.injEq, List.replicate, Nat.reduceAdd, Nat.reduceSub, reduceCtorEq, false_and, and_false, if_true, if_false, Bool.false_eq_true, Bool.not_true, Bool.not_false, decide_eq_true_eq, exists_false, or_false, false_or, tFld]
      have tr4 := st4.tr
      obtain ⟨dx, lv, nd, d0, lo, ab, hx, hlv, hnd, _⟩ := id tr4
      have sv : (P20.nodes t.er).map spV = wV ((P20.nodes t.er).map P20.spell) := by
        show _ = ((P20.nodes t.er).map P20.spell).map fun w => V.str (S w)
        rw [List.map_map]
        rfl
      refine ⟨_, _, _, hx, tc.cls, tc.fld _ (by decide), _, rfl, _, _, _, hx, tc.cls, tc.fld _ (by decide), _, rfl, _, _, _, hx, tc.cls, tc.fld _ (by decide), _, rfl, _, _, _, hx, tc.cls, tc.fld _ (by decide), _, rfl, ?_⟩
      refine ⟨x, dx, _, (P20.leaves t.er).length, rfl, hx, by omega, ⟨x, t.er, rfl, tr4, rfl, rfl⟩, ?_⟩
      refine ⟨x, dx, _, nd, _, (P20.leaves t.er).length, rfl, hx, sqT_of hnd, by rw [List.length_map]; omega, by omega, ⟨_, hnd⟩, fun q1 hq1 => ⟨?_, ?_, fun H5 s5 hq5 => ?_⟩⟩
      · refine ⟨x, _, rfl, tr4.same (same_new hq1), fun nn it ⟨dx9, fs9, e9, l9⟩ hit => ⟨it, rfl, hit, ?_⟩⟩
        rw [same_new hq1 _ _ hx] at e9
        cases e9
        cases l9
        rfl
      · exact fun it hit => ⟨x, _, rfl, tr4.same ((same_new hq1).trans (same_new hit)), rfl, rfl⟩
      refine ⟨x, dx, _, rfl, s5 _ _ hx, x, t.er, rfl, tr4.same s5, by omega, _, rfl, small (by decide), fun tl htl => ?_⟩
      have stl := same_new (o := .lst [spV t.er, spV t.er, .ref nd, .ref lv, .int (((P20.leaves t.er).length : Nat) : Int), .ref q1, .str (S ([84, 114, 101, 101, 40] ++ P20.spell t.er ++ [41]))]) htl
      exact hn _ _ ⟨tl, nd, lv, q1, rfl, s5.trans stl, upd_same, (s5.trans stl) _ _ (sv ▸ hnd), (s5.trans stl) _ _ hlv, stl _ _ (by rw [hq5, sv]; rfl)⟩
    rintro σ' H5 ⟨tl, nd, lv, q1, rfl, s5, htl, hnd, hlv, hq1⟩
    have st5 := st4.sm s5
    refine seq_cut (fun σ' H' => ∃ lt, σ' = [some (.ref b), some (.str (S a)), some (.ref d), some (.ref x), some (.ref ld), some (.ref na), some (.ref tx), none, some (.ref tl), some (.ref lt), none, none, none, none, none, none] ∧ Same H5 H' ∧ H' lt = some (.tup (wV (P20.leaves t.er)))) (fun D' hrt hn => ?_) ?_
    · simp only [L2.start, cxOf, tRet, tAndV, tOrV, tNotV, tCB, tCons, tNil, tVar, tC, tOp, tUn, tTest, tB, tIf, tIfS, tSeq, tAsg, tAnd, tOr, tNot, gName, tNext, tCall, tChain, rI, rI0, rEq, rNe, rGcd, rU, tM1, tM0, tSl, tPart, tNoPart, gTup, gCons, gNil, gSub, tTup, tLst, tPar, L2.rI, List.map_cons, List.map_nil, List.length_cons, List.length_nil, List.cons_append, List.nil_append, List.append_nil, List.getElem?_cons_zero, List.getElem?_cons_succ, List.set_cons_zero, List.set_cons_succ, Option.some.injEq, exists_eq_left, exists_eq_left', exists_eq_right, exists_and_left, exists_and_right, List.cons.injEq, and_true, true_and, V.int.injEq, V.str.injEq, V.bl.injEq, V.ref.injEq, List.replicate, Nat.reduceAdd, Nat.reduceSub, reduceCtorEq, false_and, and_false, if_true, if_false, Bool.false_eq_true, Bool.not_true, Bool.not_false, decide_eq_true_eq, exists_false, or_false, false_or]
      obtain ⟨w0, nv, ew0, _, hna, hrs⟩ := id st5.tab
      cases ew0
      have lnv : (P20.rows t).length = nv.length := hrs.length
      obtain ⟨li, lj, elast⟩ := P20.rows_last t
      obtain ⟨rv, hrv, lc, lp, rfl, _, _, hlc, hlp⟩ : ∃ rv, nv.getLast? = some rv ∧ RowAt (fun _ => True) H5 ⟨P20.spell t.er, t.pl, li, lj⟩ rv := by
        rw [List.getLast?_eq_getElem?] at elast ⊢
        rw [← lnv]
        exact paired_at' hrs elast
      exact ⟨na, nv, -1, _, rfl, rfl, SqL.of hna, at_last hrv, ixL (SqL.of hlc) 1 rfl ⟨ld, lp, u, t.pl, P20.leaves t.er, rfl, st5.land, hlp, by omega, lab.words, fun H6 t1 s6 n6 e6 => hn _ _ ⟨t1, rfl, s6, e6⟩⟩⟩
    rintro σ' H6 ⟨lt, rfl, s6, hlt⟩
    have st6 := st5.sm s6
    have g6 := g4.sm (s5.trans s6)
    refine seq_cut (fun σ' H' => σ' = [some (.ref b), some (.str (S a)), some (.ref d), some (.ref x), some (.ref ld), some (.ref na), some (.ref tx), none, some (.ref tl), some (.ref lt), none, none, none, none, none, none] ∧ Same H6 H') (fun D' hrt hn => ?_) ?_
    · simp only [L2.start, cxOf, tRet, tAndV, tOrV, tNotV, tCB, tCons, tNil, tVar, tC, tOp, tUn, tTest, tB, tSeq, tAsg, tNot, gName, tNext, tCall, tChain, rI, rI0, rEq, rNe, rGcd, rU, tM1, tM0, tSl, tPart, tNoPart, gTup, gCons, gNil, gSub, tTup, tLst, tPar, L2.rI, List.map_cons, List.map_nil, List.length_cons, List.length_nil, List.cons_append, List.nil_append, List.append_nil, List.getElem?_cons_zero, List.getElem?_cons_succ, List.set_cons_zero, List.set_cons_succ, Option.some.injEq, exists_eq_left, exists_eq_left', exists_eq_right, exists_and_left, exists_and_right, List.cons.injEq, and_true, true_and, V.int.injEq, V.str.injEq, V.bl.injEq, V.ref.injEq, List.replicate, Nat.reduceAdd, Nat.reduceSub, reduceCtorEq, false_and, and_false, if_true, if_false, Bool.false_eq_true, Bool.not_true, Bool.not_false, decide_eq_true_eq, exists_false, or_false, false_or, tIfS]
      have htx6 := st6.htx
      refine tx_last htx6 (tx_last htx6 ⟨_, .inl ⟨SqL.of htx6, fun tt htt => ?_⟩⟩)
      have s7 := same_new (o := .tup (wV ((P20.nodes t.er).map P20.spell))) htt
      have llt : LenV K (.ref lt) (upd H6 tt (.tup (wV ((P20.nodes t.er).map P20.spell)))) (P20.leaves t.er).length := by
        have := len_T (K := K) (s7 _ _ hlt)
        rwa [List.length_map] at this
      refine ⟨_, llt, tx_last (s7 _ _ htx6) ⟨_, rfl, ?_, ?_, small (by decide), fun dl hdl => ?_⟩⟩
      · have e1 : ("Tree(" : Str).length = 5 := by decide +kernel
        rw [e1, S_len]
        omega
      · have e1 : ("Tree(" : Str) = S [84, 114, 101, 101, 40] := by decide +kernel
        have e2 : (")" : Str) = S [41] := by decide +kernel
        rw [e1, e2, S_cat, S_len, S_len, szl]
        simp only [List.length_append, List.length_cons, List.length_nil]
        omega
      have s8 := same_new (o := .lst [spV t.er, spV t.er, .ref tt, .ref lt, .int (((P20.leaves t.er).length : Nat) : Int), .ref tx, .str (("Tree(" : Str) ++ S (P20.spell t.er) ++ (")" : Str))]) hdl
      have s78 := s7.trans s8
      have s68 := s6.trans s78
      rw [rp] at htl
      refine ⟨_, _, rfl, .inr ⟨tl, dl, _, _, rfl, rfl, .inl ⟨s68 _ _ htl, upd_same⟩, rfl, by simp, fun i u v hu hv => ?_⟩, fun H' s' => ⟨true, rfl, ?_⟩⟩
      · match i, hu, hv with
        | 0, hu, hv => cases hu; cases hv; exact lk_str
        | 1, hu, hv => cases hu; cases hv; exact lk_str
        | 2, hu, hv =>
          cases hu; cases hv
          exact lk_seq (n := 1) (.inr ⟨s68 _ _ hnd, s8 _ _ upd_same⟩) wV_str (by rw [List.length_map, List.length_map]; omega)
        | 3, hu, hv =>
          cases hu; cases hv
          exact lk_seq (n := 1) (.inr ⟨s68 _ _ hlv, s78 _ _ hlt⟩) wV_str (by rw [List.length_map]; omega)
        | 4, hu, hv => cases hu; cases hv; exact lk_int
        | 5, hu, hv =>
          cases hu; cases hv
          exact lk_seq (n := 1) (.inl ⟨s68 _ _ hq1, s78 _ _ htx6⟩) wV_str (by rw [List.length_map, List.length_map]; omega)
        | 6, hu, hv => cases hu; cases hv; exact lk_str
      rw [if_neg (by decide)]
      exact hn _ _ ⟨rfl, s78.trans s'⟩
    rintro σ' H7 ⟨rfl, s7⟩
    have st7 := st6.sm s7
    have g7 := g6.sm s7
    have hlt7 := s7 _ _ hlt
    clear hnd hlv hq1 htl st4 st5 st6 g6 g4
    have lsp : 0 < t.subs.length := P20.subs_pos t
    have nalen : ∀ {G : Hp}, Tt T2 (cT K) b x d l na ld tx t u G → LenV K (.ref na) G t.subs.length := fun {G} st => by
      obtain ⟨w0, nv, ew0, _, hna, hrs⟩ := id st.tab
      cases ew0
      have lnv : (P20.rows t).length = nv.length := hrs.length
      have := len_L (K := K) (SqL.of hna)
      rwa [← lnv, lr] at this
    have row : ∀ {G : Hp}, Tt T2 (cT K) b x d l na ld tx t u G → ∀ (i : Nat) (s' : P20.PT), t.subs[i]? = some s' → ∀ {R : VK}, R (.str (S (P20.spell s'.er))) G → rIxL K (.ref na) (.int ((i : Nat) : Int)) G fun x H => rIxL K x (.int 0) H R := fun {G} st i s' hi {R} kk => by
      obtain ⟨w0, nv, ew0, _, hna, hrs⟩ := id st.tab
      cases ew0
      obtain ⟨q, hq⟩ : ∃ q, (P20.rows t)[i]? = some q := ⟨_, List.getElem?_eq_getElem (by have := (List.getElem?_eq_some_iff.mp hi).1; omega)⟩
      obtain ⟨qv, hqv, qc, qp, rfl, _, _, hqc, hqp⟩ := paired_at' hrs hq
      have e := (P20.rows_of t i s' q hi hq).1
      exact ixL (SqL.of hna) i hqv (ixL (SqL.of hqc) 0 (by rw [e]; rfl) kk)
    have c40 : (Str.ofString "(") = S [40] := by decide +kernel
    have c41 : (Str.ofString ")") = S [41] := by decide +kernel
    have c32 : (Str.ofString " ") = S [32] := by decide +kernel
    have l1 : ∀ v : Nat, ([v] : List Nat).length = 1 := fun _ => rfl
    refine seq_cut (fun σ' H' => ∃ sp, σ' = [some (.ref b), some (.str (S a)), some (.ref d), some (.ref x), some (.ref ld), some (.ref na), some (.ref tx), none, some (.ref tl), some (.ref lt), some (.ref sp), none, none, none, none, none] ∧ Same H7 H' ∧ H' sp = some (.lst (plV (List.range t.subs.length))) ∧ sp ≠ b) (fun D' hrt hn => ?_) ?_
    · simp only [L2.start, cxOf, tRet, tAndV, tOrV, tNotV, tCB, tCons, tNil, tVar, tC, tOp, tUn, tTest, tB, tIf, tIfS, tSeq, tAsg, tAnd, tOr, tNot, gName, tNext, tCall, tChain, rI, rI0, rEq, rNe, rGcd, rU, tM1, tM0, tSl, tPart, tNoPart, gTup, gCons, gNil, gSub, tTup, tLst, tPar, L2.rI, List.map_cons, List.map_nil, List.length_cons, List.length_nil, List.cons_append, List.nil_append, List.append_nil, List.getElem?_cons_zero, List.getElem?_cons_succ, List.set_cons_zero, List.set_cons_succ, Option.some.injEq, exists_eq_left, exists_eq_left', exists_eq_right, exists_and_left, exists_and_right, List.cons.injEq, and_true, true_and, V.int.injEq, V.str.injEq, V.bl.injEq, V.ref.injEq, List.replicate, Nat.reduceAdd, Nat.reduceSub, reduceCtorEq, false_and, and_false, if_true, if_false, Bool.false_eq_true, Bool.not_true, Bool.not_false, decide_eq_true_eq, exists_false, or_false, false_or, tLstRg, tRg1]
      refine ⟨_, nalen st7, RgOk.of_le (by omega) (by omega) (by omega) (by omega), fun sp hsp => ?_⟩
      rw [rgV_pl]
      exact hn _ _ ⟨sp, rfl, same_new hsp, upd_same, new_ne st7.bag hsp⟩
    rintro σ' H8 ⟨sp0, rfl, s8, hsp0, spb0⟩
    have st8 := st7.sm s8
    have g8 := g7.sm s8
    refine seq_cut (fun σ' H' => ∃ sp ks, σ' = [some (.ref b), some (.str (S a)), some (.ref d), some (.ref x), some (.ref ld), some (.ref na), some (.ref tx), none, some (.ref tl), some (.ref lt), some (.ref sp), none, none, none, none, none] ∧ Go T2 b H8 H' ∧ H' sp = some (.lst (plV ks)) ∧ sp ≠ b ∧ ∀ k ∈ ks, k < t.subs.length) (fun D' hrt hn => ?_) ?_
    · simp only [L2.start, cxOf, tRet, tAndV, tOrV, tNotV, tCB, tCons, tNil, tVar, tC, tOp, tUn, tTest, tB, tSeq, tAsg, tNot, gName, tNext, tCall, tChain, rI, rI0, rEq, rNe, rGcd, rU, tM1, tM0, tSl, tPart, tNoPart, gTup, gCons, gNil, gSub, tTup, tLst, tPar, L2.rI, List.map_cons, List.map_nil, List.length_cons, List.length_nil, List.cons_append, List.nil_append, List.append_nil, List.getElem?_cons_zero, List.getElem?_cons_succ, List.set_cons_zero, List.set_cons_succ, Option.some.injEq, exists_eq_left, exists_eq_left', exists_eq_right, exists_and_left, exists_and_right, List.cons.injEq, and_true, true_and, V.int.injEq, V.str.injEq, V.bl.injEq, V.ref.injEq, List.replicate, Nat.reduceAdd, Nat.reduceSub, reduceCtorEq, false_and, and_false, if_true, if_false, Bool.false_eq_true, Bool.not_true, Bool.not_false, decide_eq_true_eq, exists_false, or_false, false_or, tIfS]
      refine ⟨_, nalen st8, ?_⟩
      by_cases big : (16 : Int) < (t.subs.length : Int)
      · rw [if_pos big]
        refine lc_range (n := 8) (H1 := H8) (by decide) (fun R h => ?_) (fun x => rfl) fun D hD => ?_
        · exact h
        · have nD := new_ne st8.bag hD
          refine ⟨fun i H' => Ex b H8 H' ∧ ∃ ks, H' D = some (.lst (plV ks)) ∧ ks.length = i ∧ ∀ k ∈ ks, k < t.subs.length, ⟨(Ex.rf st8.bag).sm (same_new hD), [], upd_same, rfl, by simp⟩, fun i H' hi ⟨x1, ks, hDD, lk1, kk⟩ => ?_, fun H' ⟨x1, ks, hDD, lk1, kk⟩ => ?_⟩
          · simp only [L2.start, cxOf, tRet, tAndV, tOrV, tNotV, tCB, tCons, tNil, tVar, tC, tOp, tUn, tTest, tB, tIf, tIfS, tSeq, tAsg, tAnd, tOr, tNot, gName, tNext, tCall, tChain, rI, rI0, rEq, rNe, rGcd, rU, tM1, tM0, tSl, tPart, tNoPart, gTup, gCons, gNil, gSub, tTup, tLst, tPar, L2.rI, List.map_cons, List.map_nil, List.length_cons, List.length_nil, List.cons_append, List.nil_append, List.append_nil, List.getElem?_cons_zero, List.getElem?_cons_succ, List.set_cons_zero, List.set_cons_succ, Option.some.injEq, exists_eq_left, exists_eq_left', exists_eq_right, exists_and_left, exists_and_right, List.cons.injEq, and_true, true_and, V.int.injEq, V.str.injEq, V.bl.injEq, V.ref.injEq, List.replicate, Nat.reduceAdd, Nat.reduceSub, reduceCtorEq, false_and, and_false, if_true, if_false, Bool.false_eq_true, Bool.not_true, Bool.not_false, decide_eq_true_eq, exists_false, or_false, false_or]
            refine ⟨_, rfl, _, rfl, _, _, rfl, nalen (st8.ex x1), b, _, rfl, x1.bag, by omega, by omega, fun H9 k x9 k0 k1 => ?_⟩
            obtain ⟨k, rfl⟩ := Int.eq_ofNat_of_zero_le k0
            refine ⟨_, x9.keep _ _ nD hDD, by rw [List.length_map, szl]; omega, (x1.tr x9).put st8.bag hD, ks ++ [k], ?_, by rw [List.length_append, lk1]; rfl, fun j hj => ?_⟩
            · rw [upd_same]
              simp [plV]
            · rcases List.mem_append.mp hj with z | z
              · exact kk j z
              · rw [List.mem_singleton.mp z]
                omega
          · exact hn _ _ ⟨D, ks, rfl, st8.rf.ex x1, hDD, nD, kk⟩
      · rw [if_neg big]
        exact hn _ _ ⟨sp0, _, rfl, st8.rf, hsp0, spb0, fun k hk => List.mem_range.mp hk⟩
    rintro σ' H9 ⟨sp, ks, rfl, g9, hsp, spb, kk⟩
    have st9 := st8.go g9
    have g9' := g8.tr g9
    refine seq_cut (fun σ' H' => ∃ y, σ' = [some (.ref b), some (.str (S a)), some (.ref d), some (.ref x), some (.ref ld), some (.ref na), some (.ref tx), none, some (.ref tl), some (.ref lt), some (.ref sp), none, y, none, none, none] ∧ Same H9 H') (fun D' hrt hn => ?_) ?_
    · refine for_list_at (l := sp) (xs := plV ks) (fun R k => ⟨_, rfl, k⟩) (SqL.of hsp) ⟨fun i σ' H' => ∃ y, σ' = [some (.ref b), some (.str (S a)), some (.ref d), some (.ref x), some (.ref ld), some (.ref na), some (.ref tx), none, some (.ref tl), some (.ref lt), some (.ref sp), none, y, none, none, none] ∧ Same H9 H', ⟨none, rfl, Same.refl _⟩, fun i σ' H' hi h => ?_, ?_, ?_⟩
      · obtain ⟨_, _, sm⟩ := h
        exact SqL.of (sm _ _ hsp)
      · rintro i z σ' H' hz ⟨y, rfl, sm⟩
        rw [List.getElem?_map] at hz
        obtain ⟨k, hk, rfl⟩ := Option.map_eq_some_iff.mp hz
        have kl := kk k (List.mem_of_getElem? hk)
        have st := st9.sm sm
        simp only [L2.start, cxOf, tRet, tAndV, tOrV, tNotV, tCB, tCons, tNil, tVar, tC, tOp, tUn, tTest, tB, tIf, tIfS, tSeq, tAsg, tAnd, tOr, tNot, gName, tNext, tCall, tChain, rI, rI0, rEq, rNe, rGcd, rU, tM1, tM0, tSl, tPart, tNoPart, gTup, gCons, gNil, gSub, tTup, tLst, tPar, L2.rI, List.map_cons, List.map_nil, List.length_cons, List.length_nil, List.cons_append, List.nil_append, List.append_nil, List.getElem?_cons_zero, List.getElem?_cons_succ, List.set_cons_zero, List.set_cons_succ, Option.some.injEq, exists_eq_left, exists_eq_left', exists_eq_right, exists_and_left, exists_and_right, List.cons.injEq, and_true, true_and, V.int.injEq, V.str.injEq, V.bl.injEq, V.ref.injEq, List.replicate, Nat.reduceAdd, Nat.reduceSub, reduceCtorEq, false_and, and_false, if_true, if_false, Bool.false_eq_true, Bool.not_true, Bool.not_false, decide_eq_true_eq, exists_false, or_false, false_or, tIfS]
        refine ⟨_, x, ld, _, t, u, k, rfl, st.tr, st.fine, st.tab, st.land, st.lab, kl, fun H10 s10 => ⟨true, rfl, ?_⟩⟩
        rw [if_neg (by decide)]
        exact sm.trans s10
      · rintro σ' H' ⟨y, rfl, sm⟩
        exact hn _ _ ⟨y, rfl, sm⟩
    rintro σ' H10 ⟨yk, rfl, s10⟩
    have st10 := st9.sm s10
    have g10 := g9'.sm s10
    have hlt10 := g9.keep lt _ (tup_ne st8.bag (s8 _ _ hlt7)) (s8 _ _ hlt7) (fun _ z => by cases z)
    replace hlt10 := s10 _ _ hlt10
    clear hlt hlt7
    refine seq_cut (fun σ' H' => ∃ (o : Addr) (i : Nat) (sn : P20.PT) (r : P20.Row) (p : Addr), σ' = [some (.ref b), some (.str (S a)), some (.ref d), some (.ref x), some (.ref ld), some (.ref na), some (.ref tx), some (.ref o), some (.ref tl), some (.ref lt), some (.ref sp), none, yk, none, none, none] ∧ Ex b H10 H' ∧ t.subs[i]? = some sn ∧ P20.RowOf t.subs sn r ∧ H' o = some (.lst [.str (S r.tx), .ref p, .int r.li, .int r.ri]) ∧ o ≠ b) (fun D' hrt hn => ?_) ?_
    · simp only [L2.start, cxOf, tRet, tAndV, tOrV, tNotV, tCB, tCons, tNil, tVar, tC, tOp, tUn, tTest, tB, tIf, tIfS, tSeq, tAsg, tAnd, tOr, tNot, gName, tNext, tCall, tChain, rI, rI0, rEq, rNe, rGcd, rU, tM1, tM0, tSl, tPart, tNoPart, gTup, gCons, gNil, gSub, tTup, tLst, tPar, L2.rI, List.map_cons, List.map_nil, List.length_cons, List.length_nil, List.cons_append, List.nil_append, List.append_nil, List.getElem?_cons_zero, List.getElem?_cons_succ, List.set_cons_zero, List.set_cons_succ, Option.some.injEq, exists_eq_left, exists_eq_left', exists_eq_right, exists_and_left, exists_and_right, List.cons.injEq, and_true, true_and, V.int.injEq, V.str.injEq, V.bl.injEq, V.ref.injEq, List.replicate, Nat.reduceAdd, Nat.reduceSub, reduceCtorEq, false_and, and_false, if_true, if_false, Bool.false_eq_true, Bool.not_true, Bool.not_false, decide_eq_true_eq, exists_false, or_false, false_or]
      obtain ⟨w0, nv, ew0, _, hna, hrs⟩ := id st10.tab
      cases ew0
      have lnv : (P20.rows t).length = nv.length := hrs.length
      refine ⟨b, .ref na, rfl, st10.bag, .inl ⟨na, nv, rfl, hna, TabAt.ne hna hrs st10.bag, by omega, by omega, fun H11 z x11 hz => ?_⟩⟩
      obtain ⟨i, hi⟩ := List.mem_iff_getElem?.mp hz
      obtain ⟨r, hr0, o, p, rfl, _, _, ho, hp⟩ := paired_at hrs hi
      have li : i < nv.length := (List.getElem?_eq_some_iff.mp hi).1
      obtain ⟨sn, hs⟩ : ∃ sn, t.subs[i]? = some sn := ⟨_, List.getElem?_eq_getElem (by omega)⟩
      have ob : o ≠ b := fun z => by
        obtain ⟨l0, ns, pos, big, mixed, cnt, left, f1, _⟩ := st10.bag
        rw [z, f1] at ho
        cases ho
      exact hn _ _ ⟨o, i, sn, r, p, rfl, x11, hs, P20.rows_of t i sn r hs hr0, x11.keep _ _ ob ho, ob⟩
    rintro σ' H11 ⟨o, i0, sn, r, p, rfl, x11, hs, ro, ho, ob⟩
    have st11 := st10.ex x11
    have g11 := g10.ex x11
    have ms := List.mem_of_getElem? hs
    have sle := P20.spell_sub (P20.sub_er ms)
    refine seq_cut (fun σ' H' => ∃ (wl : Addr) (zs : List Str), σ' = [some (.ref b), some (.str (S a)), some (.ref d), some (.ref x), some (.ref ld), some (.ref na), some (.ref tx), some (.ref o), some (.ref tl), some (.ref lt), some (.ref sp), none, yk, some (.ref wl), none, none] ∧ Ex b H11 H' ∧ H' wl = some (.lst (zs.map V.str)) ∧ wl ≠ b ∧ wl ≠ o ∧ H11 wl = none ∧ zs.length ≤ 5 ∧ ∀ z ∈ zs, z.length ≤ 10000) (fun D' hrt hn => ?_) ?_
    · simp only [L2.start, cxOf, tRet, tAndV, tOrV, tNotV, tCB, tCons, tNil, tVar, tC, tOp, tUn, tTest, tB, tIf, tIfS, tSeq, tAsg, tAnd, tOr, tNot, gName, tNext, tCall, tChain, rI, rI0, rEq, rNe, rGcd, rU, tM1, tM0, tSl, tPart, tNoPart, gTup, gCons, gNil, gSub, tTup, tLst, tPar, L2.rI, List.map_cons, List.map_nil, List.length_cons, List.length_nil, List.cons_append, List.nil_append, List.append_nil, List.getElem?_cons_zero, List.getElem?_cons_succ, List.set_cons_zero, List.set_cons_succ, Option.some.injEq, exists_eq_left, exists_eq_left', exists_eq_right, exists_and_left, exists_and_right, List.cons.injEq, and_true, true_and, V.int.injEq, V.str.injEq, V.bl.injEq, V.ref.injEq, List.replicate, Nat.reduceAdd, Nat.reduceSub, reduceCtorEq, false_and, and_false, if_true, if_false, Bool.false_eq_true, Bool.not_true, Bool.not_false, decide_eq_true_eq, exists_false, or_false, false_or]
      refine ixL (SqL.of st11.hd) 0 rfl ⟨b, l, u, rfl, st11.bag, st11.hl, st11.lb, fun H12 u1 x12 lu1 ok1 => ?_⟩
      have st12 := st11.ex x12
      have ho12 := x12.keep _ _ ob ho
      obtain ⟨n0, r0, en⟩ : ∃ n0 r0, P20.nodes t.er = n0 :: r0 := by
        cases e : P20.nodes t.er with
        | nil => rw [e] at ln; exact absurd ln (by simp only [List.length_nil]; omega)
        | cons n0 r0 => exact ⟨n0, r0, rfl⟩
      have l0 := P20.spell_sub (show n0 ∈ P20.nodes t.er by rw [en]; exact List.mem_cons_self)
      have htx0 := st12.htx
      rw [en] at htx0
      rw [c40, c41, c32]
      refine ixL (SqL.of ho12) 0 (by rw [ro.1]; rfl) ⟨_, rfl, ?_, ?_⟩
      · rw [S_len, S_len, szl, l1]
        omega
      refine ixL (SqL.of ho12) 0 (by rw [ro.1]; rfl) ⟨_, rfl, ?_, ?_, ?_⟩
      · rw [S_len, S_len, szl, l1]
        omega
      · rw [S_cat, S_len, S_len, szl, List.length_append, l1, l1]
        omega
      refine ixL (SqL.of htx0) 0 rfl ⟨_, rfl, ?_, ?_, ?_⟩
      · rw [S_len, S_len, szl, l1]
        omega
      · rw [S_cat, S_len, S_len, szl, List.length_append, l1, l1]
        omega
      refine ixL (SqL.of htx0) 0 rfl ⟨_, rfl, ?_, ?_, small (by decide), fun wl hwl => ?_⟩
      · rw [S_cat, S_cat, S_len, S_len, szl, List.length_append, List.length_append, l1, l1]
        omega
      · rw [S_cat, S_cat, S_cat, S_len, S_len, szl, List.length_append, List.length_append, List.length_append, l1, l1, l1]
        omega
      have nwl : H11 wl = none := by
        cases e : H11 wl with
        | none => rfl
        | some o1 =>
          by_cases c : wl = b
          · obtain ⟨l0, ns, pos, big, mixed, cnt, left, f1, _⟩ := x12.bag
            rw [c, f1] at hwl
            cases hwl
          · rw [x12.keep _ _ c e] at hwl
            cases hwl
      refine hn _ _ ⟨wl, [S u1, ("" : Str), S (P20.spell sn.er) ++ S [32], S [40] ++ S (P20.spell sn.er) ++ S [41], S [40] ++ S (P20.spell n0) ++ S [32] ++ S (P20.spell n0) ++ S [41]], rfl, x12.sm (same_new hwl), upd_same, new_ne st12.bag hwl, (fun z => by rw [z, ho] at nwl; cases nwl), nwl, by simp, fun z hz => ?_⟩
      simp only [List.mem_cons, List.not_mem_nil, or_false] at hz
      rcases hz with rfl | rfl | rfl | rfl | rfl
      · rw [S_len]; omega
      · decide +kernel
      · rw [S_cat, S_len, List.length_append, l1]; omega
      · rw [S_cat, S_cat, S_len, List.length_append, List.length_append, l1, l1]; omega
      · rw [S_cat, S_cat, S_cat, S_cat, S_len, List.length_append, List.length_append, List.length_append, List.length_append, l1, l1, l1]; omega
    rintro σ' H12 ⟨wl, zs, rfl, x12, hwl, wb, wo, nwl, lzs, zlen⟩
    have st12 := st11.ex x12
    have g12 := g11.ex x12
    have ho12 := x12.keep _ _ ob ho
    refine seq_cut (fun σ' H' => ∃ zs : List Str, σ' = [some (.ref b), some (.str (S a)), some (.ref d), some (.ref x), some (.ref ld), some (.ref na), some (.ref tx), some (.ref o), some (.ref tl), some (.ref lt), some (.ref sp), none, yk, some (.ref wl), none, none] ∧ Ex b H11 H' ∧ H' wl = some (.lst (zs.map V.str)) ∧ zs.length ≤ 7 ∧ ∀ z ∈ zs, z.length ≤ 10000) (fun D' hrt hn => ?_) ?_
    · simp only [L2.start, cxOf, tRet, tAndV, tOrV, tNotV, tCB, tCons, tNil, tVar, tC, tOp, tUn, tTest, tB, tSeq, tAsg, tNot, gName, tNext, tCall, tChain, rI, rI0, rEq, rNe, rGcd, rU, tM1, tM0, tSl, tPart, tNoPart, gTup, gCons, gNil, gSub, tTup, tLst, tPar, L2.rI, List.map_cons, List.map_nil, List.length_cons, List.length_nil, List.cons_append, List.nil_append, List.append_nil, List.getElem?_cons_zero, List.getElem?_cons_succ, List.set_cons_zero, List.set_cons_succ, Option.some.injEq, exists_eq_left, exists_eq_left', exists_eq_right, exists_and_left, exists_and_right, List.cons.injEq, and_true, true_and, V.int.injEq, V.str.injEq, V.bl.injEq, V.ref.injEq, List.replicate, Nat.reduceAdd, Nat.reduceSub, reduceCtorEq, false_and, and_false, if_true, if_false, Bool.false_eq_true, Bool.not_true, Bool.not_false, decide_eq_true_eq, exists_false, or_false, false_or, tIfS]
      refine ixL (SqL.of ho12) 2 rfl ⟨_, rfl, ?_⟩
      have r3 := ro.2.2
      cases sn with
      | leaf w0 p0 =>
        rw [if_neg (by rw [r3.1]; decide)]
        exact hn _ _ ⟨zs, rfl, x12, hwl, by omega, zlen⟩
      | node l' r' =>
        obtain ⟨i1, j1, h1, h2, h3, h4⟩ := r3
        have l3 := P20.spell_sub (P20.sub_er (List.mem_of_getElem? h3))
        have l4 := P20.spell_sub (P20.sub_er (List.mem_of_getElem? h4))
        rw [if_pos (by rw [h1]; omega)]
        simp only [L2.start, cxOf, tRet, tAndV, tOrV, tNotV, tCB, tCons, tNil, tVar, tC, tOp, tUn, tTest, tB, tIf, tIfS, tSeq, tAsg, tAnd, tOr, tNot, gName, tNext, tCall, tChain, rI, rI0, rEq, rNe, rGcd, rU, tM1, tM0, tSl, tPart, tNoPart, gTup, gCons, gNil, gSub, tTup, tLst, tPar, L2.rI, List.map_cons, List.map_nil, List.length_cons, List.length_nil, List.cons_append, List.nil_append, List.append_nil, List.getElem?_cons_zero, List.getElem?_cons_succ, List.set_cons_zero, List.set_cons_succ, Option.some.injEq, exists_eq_left, exists_eq_left', exists_eq_right, exists_and_left, exists_and_right, List.cons.injEq, and_true, true_and, V.int.injEq, V.str.injEq, V.bl.injEq, V.ref.injEq, List.replicate, Nat.reduceAdd, Nat.reduceSub, reduceCtorEq, false_and, and_false, if_true, if_false, Bool.false_eq_true, Bool.not_true, Bool.not_false, decide_eq_true_eq, exists_false, or_false, false_or, tDrop, tBM, CwR.tReplC]
        rw [c40, c41, c32]
        rw [h1, h2] at ho12
        refine ⟨.inl ⟨rfl, _, SqL.of hwl⟩, ixL (SqL.of ho12) 3 rfl (row st12 j1 r' h4 ⟨_, rfl, ?_, ?_, ixL (SqL.of ho12) 2 rfl (row st12 i1 l' h3 ⟨_, rfl, ?_, ?_, ?_⟩)⟩)⟩
        · rw [S_len, S_len, szl, l1]
          omega
        · rw [S_cat, S_len, S_len, szl, List.length_append, l1, l1]
          omega
        · rw [S_cat, S_cat, S_len, S_len, szl, List.length_append, List.length_append, l1, l1]
          omega
        · rw [S_cat, S_cat, S_cat, S_len, S_len, szl, List.length_append, List.length_append, List.length_append, l1, l1, l1]
          omega
        have e2 : (Str.ofString "  ").length = 2 := by decide +kernel
        have lz1 : (S [40] ++ S (P20.spell r'.er) ++ S [32] ++ S (P20.spell l'.er) ++ S [41]).length ≤ 10000 := by
          rw [S_cat, S_cat, S_cat, S_cat, S_len, List.length_append, List.length_append, List.length_append, List.length_append, l1, l1, l1]
          omega
        generalize S [40] ++ S (P20.spell r'.er) ++ S [32] ++ S (P20.spell l'.er) ++ S [41] = z1 at lz1 ⊢
        have rl : r.tx.length ≤ 300 := by rw [ro.1]; omega
        refine ⟨wl, _, V.str z1, rfl, rfl, hwl, by rw [List.length_map, szl]; omega, .inl ⟨rfl, _, SqL.of upd_same⟩, ?_⟩
        refine ixL (SqL.of (show (upd H12 wl (.lst (zs.map V.str ++ [V.str z1]))) o = _ from (upd_ne (Ne.symm wo)).trans ho12)) 0 rfl ⟨_, rfl, ?_, ?_⟩
        · rw [S_len, e2]
          omega
        have lz2 : (Txt.replace (S r.tx) (S [32]) (Str.ofString "  ")).length ≤ 10000 := by
          have k1 := TK.replace_len (S r.tx) (S [32]) (Str.ofString "  ")
          have k2 : (S r.tx).length = r.tx.length := S_len _
          rw [k2, e2] at k1
          omega
        generalize Txt.replace (S r.tx) (S [32]) (Str.ofString "  ") = z2 at lz2 ⊢
        refine ⟨wl, _, V.str z2, rfl, rfl, upd_same, by rw [List.length_append, List.length_map, List.length_singleton, szl]; omega, hn _ _ ⟨zs ++ [z1, z2], rfl, (x12.put st11.bag nwl).put st11.bag nwl, ?_, ?_, fun z hz => ?_⟩⟩
        · rw [upd_same, List.map_append, List.append_assoc]
          rfl
        · rw [List.length_append]
          simp only [List.length_cons, List.length_nil]
          omega
        · rcases List.mem_append.mp hz with hz | hz
          · exact zlen z hz
          · simp only [List.mem_cons, List.not_mem_nil, or_false] at hz
            rcases hz with rfl | rfl
            · exact lz1
            · exact lz2
    clear hwl zlen lzs st12 g12 ho12 x12
    rintro σ' H13 ⟨zs, rfl, x13, hwl, lzs, zlen⟩
    have st13 := st11.ex x13
    have g13 := g11.ex x13
    have hlt11 := x11.keep lt _ (tup_ne st10.bag hlt10) hlt10
    have hlt13 := x13.keep lt _ (tup_ne st11.bag hlt11) hlt11
    refine seq_cut (fun σ' H' => ∃ yw, σ' = [some (.ref b), some (.str (S a)), some (.ref d), some (.ref x), some (.ref ld), some (.ref na), some (.ref tx), some (.ref o), some (.ref tl), some (.ref lt), some (.ref sp), none, yk, some (.ref wl), yw, none] ∧ Go T2 b H13 H') (fun D' hrt hn => ?_) ?_
    · refine for_list_at (l := wl) (xs := zs.map V.str) (fun R k => ⟨_, rfl, k⟩) (SqL.of hwl) ⟨fun i σ' H' => ∃ yw, σ' = [some (.ref b), some (.str (S a)), some (.ref d), some (.ref x), some (.ref ld), some (.ref na), some (.ref tx), some (.ref o), some (.ref tl), some (.ref lt), some (.ref sp), none, yk, some (.ref wl), yw, none] ∧ Go T2 b H13 H', ⟨none, rfl, st13.rf⟩, fun i σ' H' hi h => ?_, ?_, ?_⟩
      · obtain ⟨_, _, gm⟩ := h
        exact SqL.of (gm.keep _ _ wb hwl (fun _ z => by cases z))
      · rintro i z σ' H' hz ⟨yw, rfl, gm⟩
        rw [List.getElem?_map] at hz
        obtain ⟨y, hy, rfl⟩ := Option.map_eq_some_iff.mp hz
        have yl := zlen y (List.mem_of_getElem? hy)
        have st := st13.go gm
        rw [← S_tl y] at yl ⊢
        rw [S_len] at yl
        simp only [L2.start, cxOf, tRet, tAndV, tOrV, tNotV, tCB, tCons, tNil, tVar, tC, tOp, tUn, tTest, tB, tIf, tIfS, tSeq, tAsg, tAnd, tOr, tNot, gName, tNext, tCall, tChain, rI, rI0, rEq, rNe, rGcd, rU, tM1, tM0, tSl, tPart, tNoPart, gTup, gCons, gNil, gSub, tTup, tLst, tPar, L2.rI, List.map_cons, List.map_nil, List.length_cons, List.length_nil, List.cons_append, List.nil_append, List.append_nil, List.getElem?_cons_zero, List.getElem?_cons_succ, List.set_cons_zero, List.set_cons_succ, Option.some.injEq, exists_eq_left, exists_eq_left', exists_eq_right, exists_and_left, exists_and_right, List.cons.injEq, and_true, true_and, V.int.injEq, V.str.injEq, V.bl.injEq, V.ref.injEq, List.replicate, Nat.reduceAdd, Nat.reduceSub, reduceCtorEq, false_and, and_false, if_true, if_false, Bool.false_eq_true, Bool.not_true, Bool.not_false, decide_eq_true_eq, exists_false, or_false, false_or, tIfS]
        refine ⟨_, b, x, _, _, t, rfl, st.bag, st.tabs, st.tr, st.fine, st.tab, yl, fun H14 g14 => ⟨true, rfl, ?_⟩⟩
        rw [if_neg (by decide)]
        exact gm.tr g14
      · rintro σ' H' ⟨y, rfl, gm⟩
        exact hn _ _ ⟨y, rfl, gm⟩
    rintro σ' H14 ⟨yw, rfl, g14⟩
    have st14 := st13.go g14
    have g014 := g13.tr g14
    have hlt14 := g14.keep lt _ (tup_ne st13.bag hlt13) hlt13 (fun _ z => by cases z)
    refine seq_cut (fun σ' H' => ∃ oth, σ' = [some (.ref b), some (.str (S a)), some (.ref d), some (.ref x), some (.ref ld), some (.ref na), some (.ref tx), some (.ref o), some (.ref tl), some (.ref lt), some (.ref sp), none, yk, some (.ref wl), yw, some (.ref oth)] ∧ Ex b H14 H' ∧ TreeAt (cT K) H' oth t.er) (fun D' hrt hn => ?_) ?_
    · simp only [L2.start, cxOf, tRet, tAndV, tOrV, tNotV, tCB, tCons, tNil, tVar, tC, tOp, tUn, tTest, tB, tIf, tIfS, tSeq, tAsg, tAnd, tOr, tNot, gName, tNext, tCall, tChain, rI, rI0, rEq, rNe, rGcd, rU, tM1, tM0, tSl, tPart, tNoPart, gTup, gCons, gNil, gSub, tTup, tLst, tPar, L2.rI, List.map_cons, List.map_nil, List.length_cons, List.length_nil, List.cons_append, List.nil_append, List.append_nil, List.getElem?_cons_zero, List.getElem?_cons_succ, List.set_cons_zero, List.set_cons_succ, Option.some.injEq, exists_eq_left, exists_eq_left', exists_eq_right, exists_and_left, exists_and_right, List.cons.injEq, and_true, true_and, V.int.injEq, V.str.injEq, V.bl.injEq, V.ref.injEq, List.replicate, Nat.reduceAdd, Nat.reduceSub, reduceCtorEq, false_and, and_false, if_true, if_false, Bool.false_eq_true, Bool.not_true, Bool.not_false, decide_eq_true_eq, exists_false, or_false, false_or, tMakeS]
      refine ⟨a, rfl, by omega, fun H15 tk s15 n15 h15 => ⟨b, tk, _, rfl, st14.bag.same s15, h15, new_ne st14.bag n15, by omega, fun v hv => ?_, fun H16 y x16 ey yl => ?_⟩⟩
      · rw [ew] at hv
        have := toks_small (n := t.er) (fun w hw => (fine.good w hw).1) v hv
        exact ⟨this.1, by omega⟩
      · exact mk_tree (ey.trans ew) (by omega) good fine.nd fine.few fun H17 oth s17 noth trO => hn _ _ ⟨oth, rfl, (((Ex.rf st14.bag).sm s15).tr x16).sm s17, trO⟩
    rintro σ' H15 ⟨oth, rfl, x15, trO⟩
    have st15 := st14.ex x15
    have g15 := g014.ex x15
    have hlt15 := x15.keep lt _ (tup_ne st14.bag hlt14) hlt14
    simp only [L2.start, cxOf, tRet, tAndV, tOrV, tNotV, tCB, tCons, tNil, tVar, tC, tOp, tUn, tTest, tB, tIf, tIfS, tSeq, tAsg, tAnd, tOr, tNot, gName, tNext, tCall, tChain, rI, rI0, rEq, rNe, rGcd, rU, tM1, tM0, tSl, tPart, tNoPart, gTup, gCons, gNil, gSub, tTup, tLst, tPar, L2.rI, List.map_cons, List.map_nil, List.length_cons, List.length_nil, List.cons_append, List.nil_append, List.append_nil, List.getElem?_cons_zero, List.getElem?_cons_succ, List.set_cons_zero, List.set_cons_succ, Option.some.injEq, exists_eq_left, exists_eq_left', exists_eq_right, exists_and_left, exists_and_right, List.cons.injEq, and_true, true_and, V.int.injEq, V.str.injEq, V.bl.injEq, V.ref.injEq, List.replicate, Nat.reduceAdd, Nat.reduceSub, reduceCtorEq, false_and, and_false, if_true, if_false, Bool.false_eq_true, Bool.not_true, Bool.not_false, decide_eq_true_eq, exists_false, or_false, false_or]
    obtain ⟨dx, lv9, nd9, d9, lo9, ab9, hx, _⟩ := id st15.tr
    obtain ⟨dx2, lv8, nd8, d8, lo8, ab8, hx2, _⟩ := id trO
    have nfO : PySem.W.notFirst K (cT K) (.ref (cT K)) = true := by simp [PySem.W.notFirst]
    have tyO : TyX K H15 (.ref oth) (.ref (cT K)) := .base (.ins hx2 tc.cls ti.cl ti.hn ti.tk ti.mo)
    have eqs : decide (P20.spell t.er = P20.spell t.er) = true := decide_eq_true rfl
    have tnS := ti.no "str" (by decide)
    have tnT := ti.no "tuple" (by decide)
    have tnI := ti.no "int" (by decide)
    refine ⟨x, _, _, _, rfl, hx, tyO, nfO, x, _, t.er, rfl, st15.tr, .inl ⟨oth, t.er, rfl, trO, _, rfl, ?_⟩⟩
    refine ⟨x, _, _, _, rfl, hx, tyO, nfO, x, _, t.er, rfl, st15.tr, .inl ⟨oth, t.er, rfl, trO, _, rfl, ?_⟩⟩
    rw [eqs]
    refine tx_last st15.htx ⟨x, _, _, _, rfl, hx, .base (.str _), tnS.2, x, _, t.er, rfl, st15.tr, .inr ⟨"str", by decide, .base (.str _), _, rfl, ?_⟩⟩
    refine tx_last st15.htx ⟨small (by decide), fun p1 hp1 => ?_⟩
    have s16 := same_new (o := .tup [spV t.er]) hp1
    have st16 := st15.sm s16
    have tyP : TyX K (upd H15 p1 (.tup [spV t.er])) (.ref p1) (.type "tuple") := .base (.tup upd_same)
    refine ⟨x, _, _, _, rfl, s16 _ _ hx, tyP, tnT.2, x, _, t.er, rfl, st16.tr, .inr ⟨"tuple", by decide, tyP, _, rfl, ?_⟩⟩
    have llt : LenV K (.ref lt) (upd H15 p1 (.tup [spV t.er])) (P20.leaves t.er).length := by
      have := len_T (K := K) (s16 _ _ hlt15)
      rwa [List.length_map] at this
    refine ⟨_, llt, x, _, _, _, rfl, s16 _ _ hx, .base (.int _), tnI.2, x, _, t.er, rfl, st16.tr, .inr ⟨"int", by decide, .base (.int _), _, rfl, ?_⟩⟩
    refine ⟨small (by decide), fun p2 hp2 => ⟨small (by decide), fun p3 hp3 => ?_⟩⟩
    have s17 := same_new (o := .lst [.bl true, .bl (!true), .bl false, .bl false, .bl false]) hp2
    have s18 := same_new (o := .lst [.bl true, .bl false, .bl false, .bl false, .bl false]) hp3
    refine ⟨_, _, rfl, .inr ⟨p2, p3, _, _, rfl, rfl, .inl ⟨s18 _ _ upd_same, upd_same⟩, rfl, by simp, fun i u v hu hv => ?_⟩, fun H' s' => q _ (g15.sm (s16.trans (s17.trans (s18.trans s'))))⟩
    match i, hu, hv with
    | 0, hu, hv => cases hu; cases hv; exact lk_bl
    | 1, hu, hv => cases hu; cases hv; exact lk_bl
    | 2, hu, hv => cases hu; cases hv; exact lk_bl
    | 3, hu, hv => cases hu; cases hv; exact lk_bl
    | 4, hu, hv => cases hu; cases hv; exact lk_bl
end
end W20

set_option Elab.async false
set_option linter.all false
set_option maxRecDepth 100000
set_option maxHeartbeats 4000000
/-! NC20: _law_bent -/
namespace W20
open PySem PySem.Spec PyProof.Rows L2 Lay
open SX (S S_len S_cat S_tl)
open C8 (Cal pe_c pe_gc fnScope_by E0)
theorem cut_mid {α : Type} {f : α → V} {xs : List α} (a b : Nat) : ∃ ys : List α, cutV (xs.map f) (some (a : Int)) (some (b : Int)) = ys.map f ∧ (∀ y ∈ ys, y ∈ xs) ∧ ys.length ≤ b - a ∧ ys.length ≤ xs.length - a := by
  refine ⟨(xs.drop (min a xs.length)).take (min b xs.length - min a xs.length), ?_, fun y hy => List.mem_of_mem_drop (List.mem_of_mem_take hy), ?_, ?_⟩
  · unfold cutV
    rw [List.length_map, HT.sIx_nat, HT.sIx_nat, List.map_take, List.map_drop]
  · rw [List.length_take]
    omega
  · rw [List.length_take, List.length_drop]
    omega
theorem cut_fr {α : Type} {f : α → V} {xs : List α} (k : Nat) : cutV (xs.map f) (some (k : Int)) none = (xs.drop k).map f := by
  by_cases h : k ≤ xs.length
  · exact cut_from h
  · unfold cutV
    rw [List.length_map, HT.sIx_nat, Nat.min_eq_right (by omega)]
    show ((xs.map f).drop xs.length).take (xs.length - xs.length) = _
    rw [Nat.sub_self, List.take_zero, List.drop_eq_nil_of_le (by omega)]
    rfl
theorem for_range_in {ta : TA} {g : TG} {tb : TS} {D : Ends} {σ : L2.St} {H : Hp} {Pre : Hp → Nat → Prop} (h : ∀ R : List V → Hp → Prop, (∀ H1 n, Pre H1 n → R [.int (n : Int)] H1) → ta σ H R) (k : ∀ H1 n, Pre H1 n → n < 2 ^ 62 ∧ LoopR g tb D σ H1 n) : tFor (iRng1 ta) g tb D σ H :=
  h _ fun H1 n p => by
    obtain ⟨hn, Pv, h0, hs, hd⟩ := k H1 n p
    refine ⟨(n : Int), rfl, by omega, by omega, ?_⟩
    rw [Int.toNat_natCast]
    exact for_range (lo := 0) Pv h0 (fun i σ' H' hi hP => by rw [Int.zero_add]; exact hs i σ' H' hi hP) hd
section
variable {K : PySem.W.Frag} {H : Hp} {a c : Addr} {us vs : List P20.Wd} {R : VK}
theorem sl_to {k : Nat} (ha : H a = some (wordsV us)) (h : k ≤ us.length) (r : ∀ H' p, Same H H' → H p = none → H' p = some (wordsV (us.take k)) → R (.ref p) H') : rSlL K (.ref a) none (some (k : Int)) H R :=
  ⟨a, _, rfl, SqL.of ha, fun p hp => r _ p (same_new hp) hp (by rw [upd_same, cut_to h]; rfl)⟩
theorem sl_fr {k : Nat} (ha : H a = some (wordsV us)) (r : ∀ H' p, Same H H' → H p = none → H' p = some (wordsV (us.drop k)) → R (.ref p) H') : rSlL K (.ref a) (some (k : Int)) none H R :=
  ⟨a, _, rfl, SqL.of ha, fun p hp => r _ p (same_new hp) hp (by rw [upd_same, cut_fr]; rfl)⟩
theorem sl_mid {j k : Nat} (ha : H a = some (wordsV us)) (r : ∀ H' p ys, Same H H' → H p = none → H' p = some (wordsV ys) → (∀ y ∈ ys, y ∈ us) → ys.length ≤ k - j → ys.length ≤ us.length - j → R (.ref p) H') : rSlL K (.ref a) (some (j : Int)) (some (k : Int)) H R := by
  refine ⟨a, _, rfl, SqL.of ha, fun p hp => ?_⟩
  obtain ⟨ys, e, h1, h2, h3⟩ := cut_mid (f := fun w => V.str (S w)) (xs := us) j k
  exact r _ p ys (same_new hp) hp (by rw [upd_same, e]; rfl) h1 h2 h3
theorem catW (ha : H a = some (wordsV us)) (hc : H c = some (wordsV vs)) (h : us.length + vs.length ≤ 1000) (r : ∀ H' p, Same H H' → H p = none → H' p = some (wordsV (us ++ vs)) → R (.ref p) H') : rCat (.ref a) (.ref c) H R :=
  ⟨a, c, _, _, rfl, rfl, ha, hc, by rw [List.length_map, List.length_map, sizeLine_eq]; omega, fun p hp => r _ p (same_new hp) hp (by rw [upd_same, wordsV, List.map_append])⟩
end
def GoodW (u : P20.Wd) : Prop := (P20.Brk u ∨ P20.Name u) ∧ u.length ≤ 10
def goodB (u : List Nat) : Bool := (u == [40] || u == [41] || (!u.isEmpty && u.all fun c => c != 32 && c != 40 && c != 41)) && decide (u.length ≤ 10)
theorem good_w {u : List Nat} (h : goodB u = true) : GoodW u := by
  unfold goodB at h
  rw [Bool.and_eq_true, decide_eq_true_eq] at h
  refine ⟨?_, h.2⟩
  rcases Bool.or_eq_true_iff.mp h.1 with z | z
  · rcases Bool.or_eq_true_iff.mp z with z | z
    · exact .inl (.inl (beq_iff_eq.mp z))
    · exact .inl (.inr (beq_iff_eq.mp z))
  · rw [Bool.and_eq_true, List.all_eq_true] at z
    refine .inr ⟨fun e => ?_, fun c hc => ?_⟩
    · rw [e] at z
      exact absurd z.1 (by decide)
    · have := z.2 c hc
      simp only [Bool.and_eq_true, bne_iff_ne] at this
      exact ⟨this.1.1, this.1.2, this.2⟩
/-- a text that is a good word -/
def GV (v : V) : Prop := ∃ u, v = .str (S u) ∧ GoodW u
theorem gv_s {z : Str} (h : goodB z.cps.toList = true) : GV (.str z) := ⟨z.cps.toList, by rw [S_tl], good_w h⟩
theorem z11123 {v : V} (h : v ∈ ([.int 1, .int 1, .int 1, .int 2, .int 3] : List V)) : ∃ n : Nat, v = .int (n : Int) ∧ n ≤ 3 := by
  simp only [List.mem_cons, List.not_mem_nil, or_false] at h
  rcases h with rfl | rfl | rfl | rfl | rfl
  · exact ⟨1, rfl, by decide⟩
  · exact ⟨1, rfl, by decide⟩
  · exact ⟨1, rfl, by decide⟩
  · exact ⟨2, rfl, by decide⟩
  · exact ⟨3, rfl, by decide⟩
section
variable {P : Program} {w : World} {K : PySem.W.Frag} {mg : Str → Option Value} {base : Heap} {f : Addr} {fd : FuncData}
theorem sd62 : FnScope ["bag", "words", "names", "made", "turn", "at", "strange", "word", "kind"] ["bag", "words", "names"] (defScope (top 62)) := fnScope_by (by decide +kernel)
def spBent : Sp := fun vs H Q _ => ∃ (b l n : Addr) (ws ns : List P20.Wd), vs = [.ref b, .ref l, .ref n] ∧ Bag H b ∧ H l = some (wordsV ws) ∧ l ≠ b ∧ H n = some (wordsV ns) ∧ n ≠ b ∧ 0 < ns.length ∧ ns.length ≤ 100 ∧ ws.length ≤ 100 ∧ (∀ u ∈ ws, GoodW u) ∧ (∀ u ∈ ns, GoodW u) ∧
  ∀ H' a us, Ex b H H' → a ≠ b → H' a = some (wordsV us) → us.length ≤ ws.length + 6 → (∀ u ∈ us, GoodW u) → Q (.ref a) H'
theorem ok_bent (m : Mg K mg) (c__law_draw : Cal P w K mg base 1 "_law_draw" spDraw []) (c__law_of : Cal P w K mg base 2 "_law_of" spPick []) (c__law_barred : Cal P w K mg base 1 "_law_barred" spBarred []) (c__law_name : Cal P w K mg base 3 "_law_name" spName [])
    (F : Fn K "_law_bent" 62 f fd) (g : mg "_law_bent" = some (.ref f)) : Cal P w K mg base 4 "_law_bent" spBent [] := by
  have sc := sd62
  refine calD F g sc (fun _ _ _ _ _ _ us hl => match us, hl with | [_, _, _], _ => rfl) ?_ fun cdv A outer s H vs Q E hr h => ?_
  · rintro vs H Q E ⟨b, l, n, ws, ns, rfl, _⟩
    rfl
  · obtain ⟨b, l, n, ws, ns, rfl, bag, hl, lb, hn0, nb, p0, p1, lw, gw, gn, q⟩ := h
    refine ⟨_, (pss_cons (ps_set (i := 3) sc.nd rfl (.inl rfl) (pe_callTy call_list_of (by rfl) m.list_ boot_list (pa_cons (pv 1) pa_nil)))
      (pss_cons (ps_for pown rfl (pi_range1 rfl m.range_ (pa_cons (pe_c c__law_of hr (by omega) (by rfl) (pa_cons (pv 0) (pa_cons (pe_lst (pa_cons pe_int (pa_cons pe_int (pa_cons pe_int (pa_cons pe_int (pa_cons pe_int pa_nil)))))) pa_nil))) pa_nil)) (pg_name (i := 4) sc.nd rfl (.inl rfl))
        (pss_cons (ps_set (i := 5) sc.nd rfl (.inl rfl) (pe_c c__law_draw hr (by omega) (by rfl) (pa_cons (pv 0) (pa_cons (pe_op op_add (pe_callB call_len (by rfl) m.len_ boot_len (pa_cons (pv 3) pa_nil)) pe_int) pa_nil))))
        (pss_cons (ps_set (i := 6) sc.nd rfl (.inl rfl) (pe_lst (pa_cons (pe_c c__law_of hr (by omega) (by rfl) (pa_cons (pv 0) (pa_cons (pe_c0 c__law_barred hr (by omega) (by rfl)) pa_nil))) (pa_cons pe_str (pa_cons pe_str (pa_cons pe_str (pa_cons pe_str (pa_cons pe_str (pa_cons pe_str (pa_cons pe_str (pa_cons (pe_c c__law_name hr (by omega) (by rfl) (pa_cons (pv 0) pa_nil)) pa_nil)))))))))))
        (pss_cons (ps_set (i := 7) sc.nd rfl (.inl rfl) (pe_c c__law_of hr (by omega) (by rfl) (pa_cons (pv 0) (pa_cons (pe_lst (pa_cons pe_str (pa_cons pe_str (pa_cons (pe_c c__law_of hr (by omega) (by rfl) (pa_cons (pv 0) (pa_cons (pv 2) pa_nil))) (pa_cons (pe_c c__law_of hr (by omega) (by rfl) (pa_cons (pv 0) (pa_cons (pv 6) pa_nil))) pa_nil))))) pa_nil))))
        (pss_cons (ps_set (i := 8) sc.nd rfl (.inl rfl) (pe_c c__law_draw hr (by omega) (by rfl) (pa_cons (pv 0) (pa_cons pe_int pa_nil))))
        (pss_one (ps_if (pt_cmpR op_eq (pv 8) pe_int (nomark _))
          (pss_one (ps_set (i := 3) sc.nd rfl (.inl rfl) (pe_op op_cat (pe_slice sl_list (pv 3) po_none (po_some (pv 5))) (pe_slice sl_list (pv 3) (po_some (pe_op op_add (pv 5) pe_int)) po_none))))
          (pss_one (ps_if (pt_cmpR op_eq (pv 8) pe_int (nomark _))
            (pss_one (ps_set (i := 3) sc.nd rfl (.inl rfl) (pe_op op_cat (pe_op op_cat (pe_slice sl_list (pv 3) po_none (po_some (pv 5))) (pe_lst (pa_cons (pv 7) pa_nil))) (pe_slice sl_list (pv 3) (po_some (pv 5)) po_none))))
            (pss_one (ps_if (pt_cmpR op_eq (pv 8) pe_int (nomark _))
              (pss_one (ps_set (i := 3) sc.nd rfl (.inl rfl) (pe_op op_cat (pe_op op_cat (pe_slice sl_list (pv 3) po_none (po_some (pv 5))) (pe_lst (pa_cons (pv 7) pa_nil))) (pe_slice sl_list (pv 3) (po_some (pe_op op_add (pv 5) pe_int)) po_none))))
              (pss_one (ps_if (pt_cmpR op_eq (pv 8) pe_int (nomark _))
                (pss_one (ps_set (i := 3) sc.nd rfl (.inl rfl) (pe_op op_cat (pe_op op_cat (pe_slice sl_list (pv 3) po_none (po_some (pv 5))) (pe_slice sl_list (pv 3) (po_some (pv 5)) (po_some (pe_op op_add (pv 5) pe_int)))) (pe_slice sl_list (pv 3) (po_some (pv 5)) po_none))))
                (pss_one (ps_set (i := 3) sc.nd rfl (.inl rfl) (pe_op op_cat (pe_op op_cat (pe_op op_cat (pe_op op_cat (pe_slice sl_list (pv 3) po_none (po_some (pv 5))) (pe_lst (pa_cons pe_str pa_nil))) (pe_slice sl_list (pv 3) (po_some (pv 5)) (po_some (pe_op op_add (pv 5) pe_int)))) (pe_lst (pa_cons pe_str pa_nil))) (pe_slice sl_list (pv 3) (po_some (pe_op op_add (pv 5) pe_int)) po_none)))))))))))))))))
      (pss_one (ps_ret (pv 3))))), ?_⟩
    have szl := sizeLine_eq
    refine seq_cut (fun σ' H' => ∃ a : Addr, σ' = [some (.ref b), some (.ref l), some (.ref n), some (.ref a), none, none, none, none, none] ∧ Same H H' ∧ a ≠ b ∧ H' a = some (wordsV ws)) (fun D' hrt hn => ?_) ?_
    · simp only [L2.start, cxOf, tRet, tAndV, tOrV, tNotV, tCB, tCons, tNil, tVar, tC, tOp, tUn, tTest, tB, tIf, tIfS, tSeq, tAsg, tAnd, tOr, tNot, gName, tNext, tCall, tChain, rI, rI0, rEq, rNe, rGcd, rU, tM1, tM0, tSl, tPart, tNoPart, gTup, gCons, gNil, gSub, tTup, tLst, tPar, L2.rI, List.map_cons, List.map_nil, List.length_cons, List.length_nil, List.cons_append, List.nil_append, List.append_nil, List.getElem?_cons_zero, List.getElem?_cons_succ, List.set_cons_zero, List.set_cons_succ, Option.some.injEq, exists_eq_left, exists_eq_left', exists_eq_right, exists_and_left, exists_and_right, List.cons.injEq, and_true, true_and, V.int.injEq, V.str.injEq, V.bl.injEq, V.ref.injEq, List.replicate, Nat.reduceAdd, Nat.reduceSub, reduceCtorEq, false_and, and_false, if_true, if_false, Bool.false_eq_true, Bool.not_true, Bool.not_false, decide_eq_true_eq, exists_false, or_false, false_or]
      exact ⟨_, .inl (SqL.of hl), fun p hp => hn _ _ ⟨p, rfl, same_new hp, new_ne bag hp, upd_same⟩⟩
    rintro σ' H1 ⟨a1, rfl, s1, ab1, ha1⟩
    have x1 : Ex b H H1 := (Ex.rf bag).sm s1
    refine seq_cut (fun σ' H' => ∃ (a : Addr) (us : List P20.Wd) (y4 y5 y6 y7 y8 : Option V), σ' = [some (.ref b), some (.ref l), some (.ref n), some (.ref a), y4, y5, y6, y7, y8] ∧ Ex b H H' ∧ a ≠ b ∧ H' a = some (wordsV us) ∧ us.length ≤ ws.length + 6 ∧ ∀ u ∈ us, GoodW u) (fun D' hrt hn => ?_) ?_
    · refine for_range_in (Pre := fun H' k => Ex b H H' ∧ H' a1 = some (wordsV ws) ∧ k ≤ 3) (fun R k => ?_) fun H2 turns ⟨x2, ha2, t3⟩ => ⟨by omega, fun i σ' H' => ∃ (a : Addr) (us : List P20.Wd) (y4 y5 y6 y7 y8 : Option V), σ' = [some (.ref b), some (.ref l), some (.ref n), some (.ref a), y4, y5, y6, y7, y8] ∧ Ex b H H' ∧ a ≠ b ∧ H' a = some (wordsV us) ∧ us.length ≤ ws.length + 2 * i ∧ ∀ u ∈ us, GoodW u,
        ⟨a1, ws, none, none, none, none, none, rfl, x2, ab1, ha2, by omega, gw⟩, ?_, ?_⟩
      · simp only [L2.start, cxOf, tRet, tAndV, tOrV, tNotV, tCB, tCons, tNil, tVar, tC, tOp, tUn, tTest, tB, tIf, tIfS, tSeq, tAsg, tAnd, tOr, tNot, gName, tNext, tCall, tChain, rI, rI0, rEq, rNe, rGcd, rU, tM1, tM0, tSl, tPart, tNoPart, gTup, gCons, gNil, gSub, tTup, tLst, tPar, L2.rI, List.map_cons, List.map_nil, List.length_cons, List.length_nil, List.cons_append, List.nil_append, List.append_nil, List.getElem?_cons_zero, List.getElem?_cons_succ, List.set_cons_zero, List.set_cons_succ, Option.some.injEq, exists_eq_left, exists_eq_left', exists_eq_right, exists_and_left, exists_and_right, List.cons.injEq, and_true, true_and, V.int.injEq, V.str.injEq, V.bl.injEq, V.ref.injEq, List.replicate, Nat.reduceAdd, Nat.reduceSub, reduceCtorEq, false_and, and_false, if_true, if_false, Bool.false_eq_true, Bool.not_true, Bool.not_false, decide_eq_true_eq, exists_false, or_false, false_or]
        refine ⟨small (by decide), fun p hp => pick_new x1.bag hp (by simp) (by simp) fun H2 z x2 hz => ?_⟩
        obtain ⟨k0, rfl, k3⟩ := z11123 hz
        exact k _ k0 ⟨x1.tr x2, x2.keep _ _ ab1 ha1, k3⟩
      · rintro i σ' H' hi ⟨a, us, y4, y5, y6, y7, y8, rfl, x, ab, ha, lu, gu⟩
        refine seq_cut (fun σ' H'' => ∃ k : Nat, σ' = [some (.ref b), some (.ref l), some (.ref n), some (.ref a), some (.int (i : Int)), some (.int (k : Int)), y6, y7, y8] ∧ Ex b H' H'' ∧ k ≤ us.length) (fun D2 hrt2 hn2 => ?_) ?_
        · simp only [L2.start, cxOf, tRet, tAndV, tOrV, tNotV, tCB, tCons, tNil, tVar, tC, tOp, tUn, tTest, tB, tIf, tIfS, tSeq, tAsg, tAnd, tOr, tNot, gName, tNext, tCall, tChain, rI, rI0, rEq, rNe, rGcd, rU, tM1, tM0, tSl, tPart, tNoPart, gTup, gCons, gNil, gSub, tTup, tLst, tPar, L2.rI, List.map_cons, List.map_nil, List.length_cons, List.length_nil, List.cons_append, List.nil_append, List.append_nil, List.getElem?_cons_zero, List.getElem?_cons_succ, List.set_cons_zero, List.set_cons_succ, Option.some.injEq, exists_eq_left, exists_eq_left', exists_eq_right, exists_and_left, exists_and_right, List.cons.injEq, and_true, true_and, V.int.injEq, V.str.injEq, V.bl.injEq, V.ref.injEq, List.replicate, Nat.reduceAdd, Nat.reduceSub, reduceCtorEq, false_and, and_false, if_true, if_false, Bool.false_eq_true, Bool.not_true, Bool.not_false, decide_eq_true_eq, exists_false, or_false, false_or]
          have la : LenV K (.ref a) H' us.length := by
            have := len_L (K := K) (SqL.of ha)
            rwa [List.length_map] at this
          refine ⟨_, la, b, _, rfl, x.bag, by omega, by omega, fun H3 k x3 k0 k1 => ?_⟩
          obtain ⟨k, rfl⟩ := Int.eq_ofNat_of_zero_le k0
          exact hn2 _ _ ⟨k, rfl, x3, by omega⟩
        rintro σ' H3 ⟨k, rfl, x3, kl⟩
        have e3 := x.tr x3
        refine seq_cut (fun σ' H'' => ∃ (st : Addr) (zs : List V), σ' = [some (.ref b), some (.ref l), some (.ref n), some (.ref a), some (.int (i : Int)), some (.int (k : Int)), some (.ref st), y7, y8] ∧ Ex b H3 H'' ∧ st ≠ b ∧ H'' st = some (.lst zs) ∧ 0 < zs.length ∧ zs.length ≤ 100 ∧ ∀ z ∈ zs, GV z) (fun D2 hrt2 hn2 => ?_) ?_
        · simp only [L2.start, cxOf, tRet, tAndV, tOrV, tNotV, tCB, tCons, tNil, tVar, tC, tOp, tUn, tTest, tB, tIf, tIfS, tSeq, tAsg, tAnd, tOr, tNot, gName, tNext, tCall, tChain, rI, rI0, rEq, rNe, rGcd, rU, tM1, tM0, tSl, tPart, tNoPart, gTup, gCons, gNil, gSub, tTup, tLst, tPar, L2.rI, List.map_cons, List.map_nil, List.length_cons, List.length_nil, List.cons_append, List.nil_append, List.append_nil, List.getElem?_cons_zero, List.getElem?_cons_succ, List.set_cons_zero, List.set_cons_succ, Option.some.injEq, exists_eq_left, exists_eq_left', exists_eq_right, exists_and_left, exists_and_right, List.cons.injEq, and_true, true_and, V.int.injEq, V.str.injEq, V.bl.injEq, V.ref.injEq, List.replicate, Nat.reduceAdd, Nat.reduceSub, reduceCtorEq, false_and, and_false, if_true, if_false, Bool.false_eq_true, Bool.not_true, Bool.not_false, decide_eq_true_eq, exists_false, or_false, false_or]
          refine ⟨rfl, fun p hp => pick_new e3.bag hp (by decide) (by decide) fun H4 z x4 hz => ?_⟩
          obtain ⟨zr, hzr, rfl⟩ := List.mem_map.mp hz
          have e4 := e3.tr x4
          refine ⟨b, rfl, e4.bag, fun H5 u2 x5 nu2 => ⟨small (by decide), fun st hst => ?_⟩⟩
          have e5 := x4.tr x5
          refine hn2 _ _ ⟨st, _, rfl, e5.new hst, new_ne e5.bag hst, upd_same, by simp, by simp, fun z hz => ?_⟩
          simp only [List.mem_cons, List.not_mem_nil, or_false] at hz
          rcases hz with rfl | rfl | rfl | rfl | rfl | rfl | rfl | rfl | rfl
          · exact gv_s ((show ∀ z ∈ W20.reserved, goodB z.cps.toList = true by decide +kernel) zr hzr)
          · exact gv_s (by decide +kernel)
          · exact gv_s (by decide +kernel)
          · exact gv_s (by decide +kernel)
          · exact gv_s (by decide +kernel)
          · exact gv_s (by decide +kernel)
          · exact gv_s (by decide +kernel)
          · exact gv_s (by decide +kernel)
          · exact ⟨u2, rfl, .inr (name_of nu2), by have := name_len nu2; omega⟩
        rintro σ' H4 ⟨st, zs, rfl, x4, sb, hst, z0, z1, gz⟩
        have e4 := e3.tr x4
        refine seq_cut (fun σ' H'' => ∃ u : P20.Wd, σ' = [some (.ref b), some (.ref l), some (.ref n), some (.ref a), some (.int (i : Int)), some (.int (k : Int)), some (.ref st), some (.str (S u)), y8] ∧ Ex b H4 H'' ∧ GoodW u) (fun D2 hrt2 hn2 => ?_) ?_
        · simp only [L2.start, cxOf, tRet, tAndV, tOrV, tNotV, tCB, tCons, tNil, tVar, tC, tOp, tUn, tTest, tB, tIf, tIfS, tSeq, tAsg, tAnd, tOr, tNot, gName, tNext, tCall, tChain, rI, rI0, rEq, rNe, rGcd, rU, tM1, tM0, tSl, tPart, tNoPart, gTup, gCons, gNil, gSub, tTup, tLst, tPar, L2.rI, List.map_cons, List.map_nil, List.length_cons, List.length_nil, List.cons_append, List.nil_append, List.append_nil, List.getElem?_cons_zero, List.getElem?_cons_succ, List.set_cons_zero, List.set_cons_succ, Option.some.injEq, exists_eq_left, exists_eq_left', exists_eq_right, exists_and_left, exists_and_right, List.cons.injEq, and_true, true_and, V.int.injEq, V.str.injEq, V.bl.injEq, V.ref.injEq, List.replicate, Nat.reduceAdd, Nat.reduceSub, reduceCtorEq, false_and, and_false, if_true, if_false, Bool.false_eq_true, Bool.not_true, Bool.not_false, decide_eq_true_eq, exists_false, or_false, false_or]
          refine ⟨b, _, rfl, e4.bag, .inl ⟨n, _, rfl, e4.keep _ _ nb hn0, nb, by rw [List.length_map]; omega, by rw [List.length_map]; omega, fun H5 v5 x5 m5 => ?_⟩⟩
          have hst5 := x5.keep _ _ sb hst
          refine ⟨b, _, rfl, x5.bag, .inl ⟨st, _, rfl, hst5, sb, z0, by omega, fun H6 v6 x6 m6 => ?_⟩⟩
          refine ⟨small (by decide), fun p hp => pick_new x6.bag hp (by simp) (by simp) fun H7 v7 x7 m7 => ?_⟩
          have gv : GV v7 := by
            simp only [List.mem_cons, List.not_mem_nil, or_false] at m7
            rcases m7 with rfl | rfl | rfl | rfl
            · exact gv_s (by decide +kernel)
            · exact gv_s (by decide +kernel)
            · obtain ⟨u5, h5, rfl⟩ := List.mem_map.mp m5
              exact ⟨u5, rfl, gn u5 h5⟩
            · exact gz _ m6
          obtain ⟨u, rfl, gu7⟩ := gv
          exact hn2 _ _ ⟨u, rfl, (x5.tr x6).tr x7, gu7⟩
        rintro σ' H5 ⟨u, rfl, x5, gu5⟩
        have e5 := e4.tr x5
        refine seq_cut (fun σ' H'' => ∃ d : Int, σ' = [some (.ref b), some (.ref l), some (.ref n), some (.ref a), some (.int (i : Int)), some (.int (k : Int)), some (.ref st), some (.str (S u)), some (.int d)] ∧ Ex b H5 H'') (fun D2 hrt2 hn2 => ?_) ?_
        · simp only [L2.start, cxOf, tRet, tAndV, tOrV, tNotV, tCB, tCons, tNil, tVar, tC, tOp, tUn, tTest, tB, tIf, tIfS, tSeq, tAsg, tAnd, tOr, tNot, gName, tNext, tCall, tChain, rI, rI0, rEq, rNe, rGcd, rU, tM1, tM0, tSl, tPart, tNoPart, gTup, gCons, gNil, gSub, tTup, tLst, tPar, L2.rI, List.map_cons, List.map_nil, List.length_cons, List.length_nil, List.cons_append, List.nil_append, List.append_nil, List.getElem?_cons_zero, List.getElem?_cons_succ, List.set_cons_zero, List.set_cons_succ, Option.some.injEq, exists_eq_left, exists_eq_left', exists_eq_right, exists_and_left, exists_and_right, List.cons.injEq, and_true, true_and, V.int.injEq, V.str.injEq, V.bl.injEq, V.ref.injEq, List.replicate, Nat.reduceAdd, Nat.reduceSub, reduceCtorEq, false_and, and_false, if_true, if_false, Bool.false_eq_true, Bool.not_true, Bool.not_false, decide_eq_true_eq, exists_false, or_false, false_or]
          exact ⟨b, 5, rfl, e5.bag, by decide, by decide, fun H6 d x6 _ _ => hn2 _ _ ⟨d, rfl, x6⟩⟩
        rintro σ' H6 ⟨d, rfl, x6⟩
        have e6 := e5.tr x6
        have ha6 := ((x3.tr x4).tr (x5.tr x6)).keep _ _ ab ha
        simp only [L2.start, cxOf, tRet, tAndV, tOrV, tNotV, tCB, tCons, tNil, tVar, tC, tOp, tUn, tTest, tB, tSeq, tAsg, tNot, gName, tNext, tCall, tChain, rI, rI0, rEq, rNe, rGcd, rU, tM1, tM0, tSl, tPart, tNoPart, gTup, gCons, gNil, gSub, tTup, tLst, tPar, L2.rI, List.map_cons, List.map_nil, List.length_cons, List.length_nil, List.cons_append, List.nil_append, List.append_nil, List.getElem?_cons_zero, List.getElem?_cons_succ, List.set_cons_zero, List.set_cons_succ, Option.some.injEq, exists_eq_left, exists_eq_left', exists_eq_right, exists_and_left, exists_and_right, List.cons.injEq, and_true, true_and, V.int.injEq, V.str.injEq, V.bl.injEq, V.ref.injEq, List.replicate, Nat.reduceAdd, Nat.reduceSub, reduceCtorEq, false_and, and_false, if_true, if_false, Bool.false_eq_true, Bool.not_true, Bool.not_false, decide_eq_true_eq, exists_false, or_false, false_or, tIfS]
        have ek : (k : Int) + 1 = ((k + 1 : Nat) : Int) := by omega
        rw [ek]
        have e06 : Ex b H H6 := e6
        have gT : ∀ u ∈ us.take k, GoodW u := fun u hu => gu u (List.mem_of_mem_take hu)
        have gD : ∀ j, ∀ u ∈ us.drop j, GoodW u := fun j u hu => gu u (List.mem_of_mem_drop hu)
        have lT : (us.take k).length = k := by rw [List.length_take]; omega
        have lD : ∀ j, (us.drop j).length = us.length - j := fun j => List.length_drop
        have g1 : ∀ u' ∈ [u], GoodW u' := fun u' hu' => by rw [List.mem_singleton.mp hu']; exact gu5
        have gA : ∀ {xs ys : List P20.Wd}, (∀ u ∈ xs, GoodW u) → (∀ u ∈ ys, GoodW u) → ∀ u ∈ xs ++ ys, GoodW u := fun h1 h2 u hu => (List.mem_append.mp hu).elim (h1 u) (h2 u)
        have gS : ∀ {ys : List P20.Wd}, (∀ y ∈ ys, y ∈ us) → ∀ u ∈ ys, GoodW u := fun h u hu => gu u (h u hu)
        have one : ∀ {G : Hp} {v : P20.Wd} {R : Addr → Hp → Prop}, (∀ G' p, Same G G' → G' p = some (wordsV [v]) → R p G') → 1 ≤ sizeLine ∧ ∀ p, G p = none → R p (upd G p (.lst [V.str (S v)])) := fun h => ⟨small (by decide), fun p hp => h _ p (same_new hp) upd_same⟩
        have fin : ∀ (G : Hp) (p : Addr) (vs : List P20.Wd), Same H6 G → H6 p = none → G p = some (wordsV vs) → vs.length ≤ us.length + 2 → (∀ u ∈ vs, GoodW u) → ∃ a, (V.ref p = V.ref a ∧ ∃ x, some (V.int d) = x) ∧ Ex b H G ∧ a ≠ b ∧ ∃ x, G a = some (wordsV x) ∧ x.length ≤ ws.length + 2 * (i + 1) ∧ ∀ u ∈ x, GoodW u :=
          fun G p vs sg np hp lv gv => ⟨p, ⟨rfl, _, rfl⟩, e6.sm sg, new_ne e6.bag np, vs, hp, by omega, gv⟩
        refine ⟨rfl, ?_⟩
        by_cases d0 : d = 0
        · rw [if_pos d0]
          refine sl_to ha6 kl fun G1 p1 t1 n1 q1 => sl_fr (t1 _ _ ha6) fun G2 p2 t2 n2 q2 => catW (t2 _ _ q1) q2 (by rw [lT, lD]; omega) fun G3 p3 t3 n3 q3 => ?_
          exact fin _ p3 _ (t1.trans (t2.trans t3)) ((t1.trans t2).free n3) q3 (by rw [List.length_append, lT, lD]; omega) (gA gT (gD _))
        rw [if_neg d0]
        refine ⟨rfl, ?_⟩
        by_cases d1 : d = 1
        · rw [if_pos d1]
          refine sl_to ha6 kl fun G1 p1 t1 n1 q1 => one fun G2 p2 t2 q2 => catW (t2 _ _ q1) q2 (by rw [lT]; simp only [List.length_cons, List.length_nil]; omega) fun G3 p3 t3 n3 q3 => ?_
          have t13 := t1.trans (t2.trans t3)
          refine sl_fr (t13 _ _ ha6) fun G4 p4 t4 n4 q4 => catW (t4 _ _ q3) q4 (by rw [List.length_append, lT, lD]; simp only [List.length_cons, List.length_nil]; omega) fun G5 p5 t5 n5 q5 => ?_
          exact fin _ p5 _ (t13.trans (t4.trans t5)) ((t13.trans t4).free n5) q5 (by rw [List.length_append, List.length_append, lT, lD]; simp only [List.length_cons, List.length_nil]; omega) (gA (gA gT g1) (gD _))
        rw [if_neg d1]
        refine ⟨rfl, ?_⟩
        by_cases d2 : d = 2
        · rw [if_pos d2]
          refine sl_to ha6 kl fun G1 p1 t1 n1 q1 => one fun G2 p2 t2 q2 => catW (t2 _ _ q1) q2 (by rw [lT]; simp only [List.length_cons, List.length_nil]; omega) fun G3 p3 t3 n3 q3 => ?_
          have t13 := t1.trans (t2.trans t3)
          refine sl_fr (t13 _ _ ha6) fun G4 p4 t4 n4 q4 => catW (t4 _ _ q3) q4 (by rw [List.length_append, lT, lD]; simp only [List.length_cons, List.length_nil]; omega) fun G5 p5 t5 n5 q5 => ?_
          exact fin _ p5 _ (t13.trans (t4.trans t5)) ((t13.trans t4).free n5) q5 (by rw [List.length_append, List.length_append, lT, lD]; simp only [List.length_cons, List.length_nil]; omega) (gA (gA gT g1) (gD _))
        rw [if_neg d2]
        refine ⟨rfl, ?_⟩
        by_cases d3 : d = 3
        · rw [if_pos d3]
          refine sl_to ha6 kl fun G1 p1 t1 n1 q1 => sl_mid (t1 _ _ ha6) fun G2 p2 ys t2 n2 q2 my ly1 ly2 => catW (t2 _ _ q1) q2 (by rw [lT]; omega) fun G3 p3 t3 n3 q3 => ?_
          have t13 := t1.trans (t2.trans t3)
          refine sl_fr (t13 _ _ ha6) fun G4 p4 t4 n4 q4 => catW (t4 _ _ q3) q4 (by rw [List.length_append, lT, lD]; omega) fun G5 p5 t5 n5 q5 => ?_
          exact fin _ p5 _ (t13.trans (t4.trans t5)) ((t13.trans t4).free n5) q5 (by rw [List.length_append, List.length_append, lT, lD]; omega) (gA (gA gT (gS my)) (gD _))
        rw [if_neg d3]
        have c40 : (Str.ofString "(") = S [40] := by decide +kernel
        have c41 : (Str.ofString ")") = S [41] := by decide +kernel
        rw [c40, c41]
        have gO : ∀ u' ∈ [[40]], GoodW u' := fun u' hu' => by rw [List.mem_singleton.mp hu']; exact good_w (by decide +kernel)
        have gC : ∀ u' ∈ [[41]], GoodW u' := fun u' hu' => by rw [List.mem_singleton.mp hu']; exact good_w (by decide +kernel)
        refine sl_to ha6 kl fun G1 p1 t1 n1 q1 => one fun G2 p2 t2 q2 => catW (t2 _ _ q1) q2 (by rw [lT]; simp only [List.length_cons, List.length_nil]; omega) fun G3 p3 t3 n3 q3 => ?_
        have t13 := t1.trans (t2.trans t3)
        refine sl_mid (t13 _ _ ha6) fun G4 p4 ys t4 n4 q4 my ly1 ly2 => catW (t4 _ _ q3) q4 (by rw [List.length_append, lT]; simp only [List.length_cons, List.length_nil]; omega) fun G5 p5 t5 n5 q5 => ?_
        have t15 := t13.trans (t4.trans t5)
        refine one fun G6 p6 t6 q6 => catW (t6 _ _ q5) q6 (by rw [List.length_append, List.length_append, lT]; simp only [List.length_cons, List.length_nil]; omega) fun G7 p7 t7 n7 q7 => ?_
        have t17 := t15.trans (t6.trans t7)
        refine sl_fr (t17 _ _ ha6) fun G8 p8 t8 n8 q8 => catW (t8 _ _ q7) q8 (by rw [List.length_append, List.length_append, List.length_append, lT, lD]; simp only [List.length_cons, List.length_nil]; omega) fun G9 p9 t9 n9 q9 => ?_
        exact fin _ p9 _ (t17.trans (t8.trans t9)) ((t17.trans t8).free n9) q9 (by rw [List.length_append, List.length_append, List.length_append, List.length_append, lT, lD]; simp only [List.length_cons, List.length_nil]; omega) (gA (gA (gA (gA gT gO) (gS my)) gC) (gD _))
      · rintro σ' H' ⟨a, us, y4, y5, y6, y7, y8, rfl, x, ab, ha, lu, gu⟩
        exact hn _ _ ⟨a, us, y4, y5, y6, y7, y8, rfl, x, ab, ha, by omega, gu⟩
    rintro σ' H2 ⟨a, us, y4, y5, y6, y7, y8, rfl, x2, ab, ha, lu, gu⟩
    simp only [L2.start, cxOf, tRet, tAndV, tOrV, tNotV, tCB, tCons, tNil, tVar, tC, tOp, tUn, tTest, tB, tIf, tIfS, tSeq, tAsg, tAnd, tOr, tNot, gName, tNext, tCall, tChain, rI, rI0, rEq, rNe, rGcd, rU, tM1, tM0, tSl, tPart, tNoPart, gTup, gCons, gNil, gSub, tTup, tLst, tPar, L2.rI, List.map_cons, List.map_nil, List.length_cons, List.length_nil, List.cons_append, List.nil_append, List.append_nil, List.getElem?_cons_zero, List.getElem?_cons_succ, List.set_cons_zero, List.set_cons_succ, Option.some.injEq, exists_eq_left, exists_eq_left', exists_eq_right, exists_and_left, exists_and_right, List.cons.injEq, and_true, true_and, V.int.injEq, V.str.injEq, V.bl.injEq, V.ref.injEq, List.replicate, Nat.reduceAdd, Nat.reduceSub, reduceCtorEq, false_and, and_false, if_true, if_false, Bool.false_eq_true, Bool.not_true, Bool.not_false, decide_eq_true_eq, exists_false, or_false, false_or]
    exact q _ _ _ x2 ab ha lu gu
end
end W20

set_option Elab.async false
set_option linter.all false
set_option maxRecDepth 100000
set_option maxHeartbeats 4000000
/-! ND20: _law_comb_right -/
namespace P20
theorem combL_snoc {xs : List Wd} {u : Wd} (h : xs ≠ []) : combL (xs ++ [u]) = .node (combL xs) (.leaf u) := by
  cases xs with
  | nil => exact absurd rfl h
  | cons w r =>
    show combL (w :: (r ++ [u])) = _
    simp only [combL, List.foldl_append, List.foldl_cons, List.foldl_nil]
theorem nd_twice {xs ys : List Wd} {u : Wd} (h : u ∈ xs ++ ys) : ¬ (xs ++ [u] ++ ys).Nodup := fun nd => by
  have h1 := List.nodup_append.mp nd
  have h2 := List.nodup_append.mp h1.1
  rcases List.mem_append.mp h with z | z
  · exact h2.2.2 u z u (List.mem_singleton.mpr rfl) rfl
  · exact h1.2.2 u (List.mem_append_right _ (List.mem_singleton.mpr rfl)) u z rfl
end P20
namespace W20
open PySem PySem.Spec PyProof.Rows L2 Lay LamX
open SX (S S_len S_cat S_tl)
open C8 (Cal Mak pe_c pe_mk pe_gc fnScope_by E0)
def q63 : Str := ("_law_comb_right" : Str) ++ (".<locals>." : Str) ++ ("<lambda>" : Str)
def rTof (K : PySem.W.Frag) : List V → Hp → VK → Prop := fun xs H Q => ∃ p ys, xs = [.ref p] ∧ ((SqL K H p ys ∧ ∀ l, H l = none → Q (.ref l) (upd H l (.tup ys))) ∨ (SqT K H p ys ∧ Q (.ref p) H))
section
variable {P : Program} {w : World} {K : PySem.W.Frag} {mg : Str → Option Value} {base : Heap} {CB CN CM : Addr} {fd : FuncData}
theorem sd63 : FnScope ["bag", "names", "due", "word", "at", "strange"] ["bag", "names"] (defScope (top 63)) := fnScope_by (by decide +kernel)
def spCombR (T2 : List (Addr × Str)) : Sp := fun vs H Q _ => ∃ (b n : Addr) (ns : List P20.Wd), vs = [.ref b, .ref n] ∧ Bag H b ∧ Tabs T2 H ∧ H n = some (wordsV ns) ∧ n ≠ b ∧ 0 < ns.length ∧ ns.length ≤ 25 ∧ (∀ u ∈ ns, nameB u = true) ∧ ns.Nodup ∧
  ∀ H', Go T2 b H H' → Q (.bl true) H'
theorem ok_combr (m : Mg K mg) (tc : Tc K mg) (c__law_draw : Cal P w K mg base 1 "_law_draw" spDraw []) (c__law_of : Cal P w K mg base 2 "_law_of" spPick []) (c__law_barred : Cal P w K mg base 1 "_law_barred" spBarred [])
    (c__law_bad : Cal P w K mg base 1 "_law_bad" spBad []) (c__law_badM : Cal P w K mg base 1 "_law_bad" spBadM []) (c__law_like : Cal P w K mg base 4 "_law_like" (spLike 4) [])
    (c_comb_of : CalN P w K mg base 6 "comb_of" (spComb K (cT K) CB CM)) (c_refused : CalL P w K mg base 9 7 "_law_refused" (spRef CB CN CM))
    (F : FunD K "_law_comb_right" "_law_comb_right" (defArgs (top 63)) (defBody (top 63)) (defScope (top 63)) [] [] (He.fAd K ("_law_comb_right", none)) fd) (g : mg "_law_comb_right" = some (.ref (He.fAd K ("_law_comb_right", none)))) {c Pt : Addr} {T2 : List (Addr × Str)} (memT : (Pt, q63) ∈ T2) (huT : ∀ p ∈ T2, p.1 = Pt → p.2 = q63)
    (hcT : He.codeOf K ("_law_comb_right", none) = c) (TB : TabB base mg c Pt) : Cal P w K mg base 11 "_law_comb_right" (spCombR T2) [] := by
  have sc := sd63
  have kp := F.kp
  have bb := F.bindsN (ps := ["bag", "names"]) fun _ _ _ _ _ _ us hl => match us, hl with | [_, _], _ => rfl
  obtain ⟨oc, od, dV, kV, doc, pm, an, cdv, ct, osl, rfl, lk, hcd, _, _⟩ := F.ex
  obtain ⟨c0, rfl⟩ := He.codeIn_ref hcd
  obtain rfl : c0 = c := by rw [← hcT]; exact (He.codeOf_eq lk rfl).symm
  obtain ⟨gTf, gTd, gTp, fT, gT, kpT, bT⟩ := c_refused.ex
  refine ⟨He.fAd K ("_law_comb_right", none), _, ["bag", "names"], [], fn_of (k := 10) lk hcd sc ?_ fun A outer s H vs Q E hr h => ?_, g, kp, bb, .nil⟩
  · rintro vs H Q E ⟨b, n, ns, rfl, _⟩
    rfl
  · obtain ⟨b, n, ns, rfl, bag, tb, hn0, nb, p0, p1, gn, nd, q⟩ := h
    refine ⟨_, PSs.nox (pss_cons (ps_set (i := 2) sc.nd rfl (.inl rfl) (pe_ix ix_list (pv 1) pe_int (fun _ _ => rfl)))
      (pss_cons (ps_for pown rfl (pi_list (pe_slice sl_list (pv 1) (po_some pe_int) po_none)) (pg_name (i := 3) sc.nd rfl (.inl rfl))
        (pss_one (ps_set (i := 2) sc.nd rfl (.inl rfl) (pe_op op_add_str (pe_op op_add_str (pe_op op_add_str (pe_op op_add_str pe_str (pv 2)) pe_str) (pv 3)) pe_str))))
      (pss_cons (ps_if (pt_cmpR op_gt (pe_callB call_len (by rfl) m.len_ boot_len (pa_cons (pv 1) pa_nil)) pe_int (nomark _))
        (pss_one (ps_if (pt_not (pt_val (pe_lamN (CXL := L2N.CX P w) (T := T2) (E := fun _ => C8.E0) fT (hr.mono (by omega)) (by rfl) gT kpT bT (fun _ _ _ _ _ _ _ h => h.elim) TB rfl memT huT (lamS_by (sc := defScope (top 63)) (by decide +kernel)) (by rfl) (fun _ _ _ _ _ => by rfl) (fun A outer s H E f c' r => pe_cN c_comb_of r (by decide) (by rfl) (takesL rfl rfl) (pa_cons (pe_callTy (show CallR _ (.type "tuple") (rTof K) from call_tuple_of) (by rfl) m.tuple_ boot_tuple (pa_cons (pv 1) pa_nil)) pa_nil)) (pa_cons (pe_c c__law_badM hr (by omega) (by rfl) (pa_cons pe_str (pa_cons (pe_lst (pa_cons pe_str (pa_cons pe_int pa_nil))) pa_nil))) pa_nil))))
          (pss_one (ps_ret pe_bl))
          pss_nil))
        (pss_one (ps_if (pt_not (pt_val (pe_c c__law_like hr (by omega) (by rfl) (pa_cons (pe_lst (pa_cons (pe_fld (pe_cN0 c_comb_of hr (by omega) (by rfl) (pa_cons (pe_callTy call_tuple_of (by rfl) m.tuple_ boot_tuple (pa_cons (pv 1) pa_nil)) pa_nil)) rfl) (pa_cons (pe_fld (pe_cN0 c_comb_of hr (by omega) (by rfl) (pa_cons (pe_callTy call_list_of (by rfl) m.list_ boot_list (pa_cons (pv 1) pa_nil)) pa_nil)) rfl) pa_nil))) (pa_cons (pe_lst (pa_cons (pv 2) (pa_cons (pv 2) pa_nil))) pa_nil)))))
          (pss_one (ps_ret pe_bl))
          pss_nil)))
      (pss_cons (ps_set (i := 4) sc.nd rfl (.inl rfl) (pe_c c__law_draw hr (by omega) (by rfl) (pa_cons (pv 0) (pa_cons (pe_op op_add (pe_callB call_len (by rfl) m.len_ boot_len (pa_cons (pv 1) pa_nil)) pe_int) pa_nil))))
      (pss_cons (ps_set (i := 3) sc.nd rfl (.inl rfl) (pe_c c__law_of hr (by omega) (by rfl) (pa_cons (pv 0) (pa_cons (pe_lst (pa_cons (pe_c c__law_of hr (by omega) (by rfl) (pa_cons (pv 0) (pa_cons (pv 1) pa_nil))) (pa_cons (pe_c c__law_of hr (by omega) (by rfl) (pa_cons (pv 0) (pa_cons (pe_c0 c__law_barred hr (by omega) (by rfl)) pa_nil))) (pa_cons pe_str (pa_cons pe_str (pa_cons pe_str (pa_cons pe_str (pa_cons pe_str (pa_cons pe_str pa_nil))))))))) pa_nil))))
      (pss_cons (ps_set (i := 5) sc.nd rfl (.inr rfl) (pe_callTy call_tuple_of (by rfl) m.tuple_ boot_tuple (pa_cons (pe_op op_cat (pe_op op_cat (pe_slice sl_list (pv 1) po_none (po_some (pv 4))) (pe_lst (pa_cons (pv 3) pa_nil))) (pe_slice sl_list (pv 1) (po_some (pv 4)) po_none)) pa_nil)))
      (pss_cons (ps_if (pt_not (pt_val (pe_lamN (CXL := L2N.CX P w) (T := T2) (E := fun _ => C8.E0) fT (hr.mono (by omega)) (by rfl) gT kpT bT (fun _ _ _ _ _ _ _ h => h.elim) TB rfl memT huT (lamS_by (sc := defScope (top 63)) (by decide +kernel)) (by rfl) (fun _ _ _ _ _ => by rfl) (fun A outer s H E f c' r => pe_cN c_comb_of r (by decide) (by rfl) (takesL rfl rfl) (pa_cons (pv 5) pa_nil)) (pa_cons (pe_c c__law_bad hr (by omega) (by rfl) (pa_cons pe_str (pa_cons (pe_lst pa_nil) pa_nil))) pa_nil))))
        (pss_one (ps_ret pe_bl))
        pss_nil)
      (pss_one (ps_ret (pe_lamN (CXL := L2N.CX P w) (T := T2) (E := fun _ => C8.E0) fT (hr.mono (by omega)) (by rfl) gT kpT bT (fun _ _ _ _ _ _ _ h => h.elim) TB rfl memT huT (lamS_by (sc := defScope (top 63)) (by decide +kernel)) (by rfl) (fun _ _ _ _ _ => by rfl) (fun A outer s H E f c' r => pe_cN c_comb_of r (by decide) (by rfl) (takesL rfl rfl) (pa_cons (pe_tup pa_nil) pa_nil)) (pa_cons (pe_c c__law_bad hr (by omega) (by rfl) (pa_cons pe_str (pa_cons (pe_lst pa_nil) pa_nil))) pa_nil))))))))))), ?_⟩
    have szl := sizeLine_eq
    have ok8 : ∀ u ∈ ns, u.length ≤ 8 := fun u hu => name_len (gn u hu)
    have g0 : Go T2 b H H := Go.rf bag tb
    have l1 : ∀ v : Nat, ([v] : List Nat).length = 1 := fun _ => rfl
    have lW : ∀ v : P20.Wd, ([v] : List P20.Wd).length = 1 := fun _ => rfl
    have c40 : (Str.ofString "(") = S [40] := by decide +kernel
    have c41 : (Str.ofString ")") = S [41] := by decide +kernel
    have c32 : (Str.ofString " ") = S [32] := by decide +kernel
    have slen : ∀ k, 0 < k → (P20.spell (P20.combL (ns.take k))).length ≤ 1000 := fun k hk => by
      have ne : ns.take k ≠ [] := fun z => by
        have := congrArg List.length z
        rw [List.length_take] at this
        simp only [List.length_nil] at this
        omega
      have h1 : ∀ u ∈ P20.leaves (P20.combL (ns.take k)), u.length ≤ 8 := fun u hu => by
        rw [P20.combL_leaves ne] at hu
        exact ok8 u (List.mem_of_mem_take hu)
      have h2 := P20.spell_len h1
      rw [P20.combL_leaves ne, List.length_take] at h2
      omega
    obtain ⟨n0, r0, en⟩ : ∃ n0 r0, ns = n0 :: r0 := by
      cases ns with
      | nil => exact absurd p0 (by decide)
      | cons n0 r0 => exact ⟨n0, r0, rfl⟩
    refine seq_cut (fun σ' H' => σ' = [some (.ref b), some (.ref n), some (.str (S (P20.spell (P20.combL (ns.take 1))))), none, none, none] ∧ H = H') (fun D' hrt hn => ?_) ?_
    · simp only [L2.start, cxOf, tRet, tAndV, tOrV, tNotV, tCB, tCons, tNil, tVar, tC, tOp, tUn, tTest, tB, tIf, tIfS, tSeq, tAsg, tAnd, tOr, tNot, gName, tNext, tCall, tChain, rI, rI0, rEq, rNe, rGcd, rU, tM1, tM0, tSl, tPart, tNoPart, gTup, gCons, gNil, gSub, tTup, tLst, tPar, L2.rI, List.map_cons, List.map_nil, List.length_cons, List.length_nil, List.cons_append, List.nil_append, List.append_nil, List.getElem?_cons_zero, List.getElem?_cons_succ, List.set_cons_zero, List.set_cons_succ, Option.some.injEq, exists_eq_left, exists_eq_left', exists_eq_right, exists_and_left, exists_and_right, List.cons.injEq, and_true, true_and, V.int.injEq, V.str.injEq, V.bl.injEq, V.ref.injEq, List.replicate, Nat.reduceAdd, Nat.reduceSub, reduceCtorEq, false_and, and_false, if_true, if_false, Bool.false_eq_true, Bool.not_true, Bool.not_false, decide_eq_true_eq, exists_false, or_false, false_or]
      refine ixL (SqL.of hn0) 0 (by rw [en]; rfl) (hn _ _ ⟨?_, rfl⟩)
      rw [en]
      rfl
    rintro σ' H0 ⟨rfl, rfl⟩
    refine seq_cut (fun σ' H' => ∃ y3, σ' = [some (.ref b), some (.ref n), some (.str (S (P20.spell (P20.combL ns)))), y3, none, none] ∧ Same H H') (fun D' hrt hn => ?_) ?_
    · refine for_list_in (Pre := fun H1 p => Same H H1 ∧ H1 p = some (wordsV (ns.drop 1))) (fun R k => ?_) fun H1 p ⟨s1, hp⟩ => ⟨_, SqL.of hp, fun i σ' H' => ∃ y3, σ' = [some (.ref b), some (.ref n), some (.str (S (P20.spell (P20.combL (ns.take (i + 1)))))), y3, none, none] ∧ Same H1 H', ⟨none, rfl, Same.refl _⟩, fun i σ' H' hi h => ?_, ?_, ?_⟩
      · simp only [L2.start, cxOf, tRet, tAndV, tOrV, tNotV, tCB, tCons, tNil, tVar, tC, tOp, tUn, tTest, tB, tIf, tIfS, tSeq, tAsg, tAnd, tOr, tNot, gName, tNext, tCall, tChain, rI, rI0, rEq, rNe, rGcd, rU, tM1, tM0, tSl, tPart, tNoPart, gTup, gCons, gNil, gSub, tTup, tLst, tPar, L2.rI, List.map_cons, List.map_nil, List.length_cons, List.length_nil, List.cons_append, List.nil_append, List.append_nil, List.getElem?_cons_zero, List.getElem?_cons_succ, List.set_cons_zero, List.set_cons_succ, Option.some.injEq, exists_eq_left, exists_eq_left', exists_eq_right, exists_and_left, exists_and_right, List.cons.injEq, and_true, true_and, V.int.injEq, V.str.injEq, V.bl.injEq, V.ref.injEq, List.replicate, Nat.reduceAdd, Nat.reduceSub, reduceCtorEq, false_and, and_false, if_true, if_false, Bool.false_eq_true, Bool.not_true, Bool.not_false, decide_eq_true_eq, exists_false, or_false, false_or]
        exact sl_fr (k := 1) hn0 fun H1 p s1 _ e1 => k H1 p ⟨s1, e1⟩
      · obtain ⟨_, _, sm⟩ := h
        exact SqL.of (sm _ _ hp)
      · rintro i z σ' H' hz ⟨y3, rfl, sm⟩
        rw [List.getElem?_map] at hz
        obtain ⟨u, hu, rfl⟩ := Option.map_eq_some_iff.mp hz
        rw [List.getElem?_drop] at hu
        have e1 : ns.take (i + 1 + 1) = ns.take (i + 1) ++ [u] := by
          rw [List.take_succ, show i + 1 = 1 + i by omega, hu]
          rfl
        have ne : ns.take (i + 1) ≠ [] := by rw [en]; simp
        have sl := slen (i + 1) (by omega)
        have lu := ok8 u (List.mem_of_getElem? hu)
        simp only [L2.start, cxOf, tRet, tAndV, tOrV, tNotV, tCB, tCons, tNil, tVar, tC, tOp, tUn, tTest, tB, tIf, tIfS, tSeq, tAsg, tAnd, tOr, tNot, gName, tNext, tCall, tChain, rI, rI0, rEq, rNe, rGcd, rU, tM1, tM0, tSl, tPart, tNoPart, gTup, gCons, gNil, gSub, tTup, tLst, tPar, L2.rI, List.map_cons, List.map_nil, List.length_cons, List.length_nil, List.cons_append, List.nil_append, List.append_nil, List.getElem?_cons_zero, List.getElem?_cons_succ, List.set_cons_zero, List.set_cons_succ, Option.some.injEq, exists_eq_left, exists_eq_left', exists_eq_right, exists_and_left, exists_and_right, List.cons.injEq, and_true, true_and, V.int.injEq, V.str.injEq, V.bl.injEq, V.ref.injEq, List.replicate, Nat.reduceAdd, Nat.reduceSub, reduceCtorEq, false_and, and_false, if_true, if_false, Bool.false_eq_true, Bool.not_true, Bool.not_false, decide_eq_true_eq, exists_false, or_false, false_or]
        rw [c40, c41, c32]
        refine ⟨?_, ?_, ?_, ?_, ?_⟩
        · rw [S_len, S_len, szl, l1]
          omega
        · rw [S_cat, S_len, S_len, szl, List.length_append, l1, l1]
          omega
        · rw [S_cat, S_cat, S_len, S_len, szl, List.length_append, List.length_append, l1, l1]
          omega
        · rw [S_cat, S_cat, S_cat, S_len, S_len, szl, List.length_append, List.length_append, List.length_append, l1, l1, l1]
          omega
        · refine ⟨⟨?_, _, rfl⟩, sm⟩
          rw [e1, P20.combL_snoc ne, S_cat, S_cat, S_cat, S_cat]
          refine congrArg S ?_
          simp [P20.spell]
      · rintro σ' H' ⟨y, rfl, sm⟩
        refine hn _ _ ⟨y, ?_, s1.trans sm⟩
        rw [List.length_map, List.length_drop, show ns.length - 1 + 1 = ns.length by omega, List.take_length]
    rintro σ' H1 ⟨y3, rfl, s1⟩
    have g1 := g0.sm s1
    have hn1 := s1 _ _ hn0
    have ne0 : ns ≠ [] := by rw [en]; simp
    have okS : ∀ u ∈ ns, u.length ≤ 1000 ∧ PyData.strOk (S u) = true := fun u hu => ⟨by have := ok8 u hu; omega, name_ok (gn u hu)⟩
    have lenN : ∀ {G : Hp}, G n = some (wordsV ns) → LenV K (.ref n) G ns.length := fun h => by
      have := len_L (K := K) (SqL.of h)
      rwa [List.length_map] at this
    refine seq_cut (fun σ' H' => σ' = [some (.ref b), some (.ref n), some (.str (S (P20.spell (P20.combL ns)))), y3, none, none] ∧ Go T2 b H H') (fun D' hrt hn => ?_) ?_
    · simp only [L2.start, cxOf, tRet, tAndV, tOrV, tNotV, tCB, tCons, tNil, tVar, tC, tOp, tUn, tTest, tB, tSeq, tAsg, tNot, gName, tNext, tCall, tChain, rI, rI0, rEq, rNe, rGcd, rU, tM1, tM0, tSl, tPart, tNoPart, gTup, gCons, gNil, gSub, tTup, tLst, tPar, L2.rI, List.map_cons, List.map_nil, List.length_cons, List.length_nil, List.cons_append, List.nil_append, List.append_nil, List.getElem?_cons_zero, List.getElem?_cons_succ, List.set_cons_zero, List.set_cons_succ, Option.some.injEq, exists_eq_left, exists_eq_left', exists_eq_right, exists_and_left, exists_and_right, List.cons.injEq, and_true, true_and, V.int.injEq, V.str.injEq, V.bl.injEq, V.ref.injEq, List.replicate, Nat.reduceAdd, Nat.reduceSub, reduceCtorEq, false_and, and_false, if_true, if_false, Bool.false_eq_true, Bool.not_true, Bool.not_false, decide_eq_true_eq, exists_false, or_false, false_or, tIfS]
      refine ⟨_, lenN hn1, ?_⟩
      by_cases big : (24 : Int) < (ns.length : Int)
      · rw [if_pos big]
        refine ref_many g1.bag g1.tabs (fun H' Q' E' g er => ?_) fun H' g => ⟨true, rfl, ?_⟩
        · simp only [tCallS, WE, rTof, L2.start, cxOf, tRet, tAndV, tOrV, tNotV, tCB, tCons, tNil, tVar, tC, tOp, tUn, tTest, tB, tIf, tIfS, tSeq, tAsg, tAnd, tOr, tNot, gName, tNext, tCall, tChain, rI, rI0, rEq, rNe, rGcd, rU, tM1, tM0, tSl, tPart, tNoPart, gTup, gCons, gNil, gSub, tTup, tLst, tPar, L2.rI, List.map_cons, List.map_nil, List.length_cons, List.length_nil, List.cons_append, List.nil_append, List.append_nil, List.getElem?_cons_zero, List.getElem?_cons_succ, List.set_cons_zero, List.set_cons_succ, Option.some.injEq, exists_eq_left, exists_eq_left', exists_eq_right, exists_and_left, exists_and_right, List.cons.injEq, and_true, true_and, V.int.injEq, V.str.injEq, V.bl.injEq, V.ref.injEq, List.replicate, Nat.reduceAdd, Nat.reduceSub, reduceCtorEq, false_and, and_false, if_true, if_false, Bool.false_eq_true, Bool.not_true, Bool.not_false, decide_eq_true_eq, exists_false, or_false, false_or]
          have hn' := g.keep _ _ nb hn1 (fun _ z => by cases z)
          refine ⟨_, .inl ⟨SqL.of hn', fun t ht => ⟨t, ns, rfl, .inr (sqT_of upd_same), by omega, okS, .inr (.inr ⟨ne0, gn, nd, ?_⟩)⟩⟩⟩
          rw [if_neg (by omega)]
          exact fun G d s5 n5 e5 => er.mono (same_new ht) G d s5 n5 e5
        · rw [if_neg (by decide)]
          exact hn _ _ ⟨rfl, g1.tr g⟩
      · rw [if_neg big]
        simp only [tCallS, tFld, L2.start, cxOf, tRet, tAndV, tOrV, tNotV, tCB, tCons, tNil, tVar, tC, tOp, tUn, tTest, tB, tSeq, tAsg, tNot, gName, tNext, tCall, tChain, rI, rI0, rEq, rNe, rGcd, rU, tM1, tM0, tSl, tPart, tNoPart, gTup, gCons, gNil, gSub, tTup, tLst, tPar, L2.rI, List.map_cons, List.map_nil, List.length_cons, List.length_nil, List.cons_append, List.nil_append, List.append_nil, List.getElem?_cons_zero, List.getElem?_cons_succ, List.set_cons_zero, List.set_cons_succ, Option.some.injEq, exists_eq_left, exists_eq_left', exists_eq_right, exists_and_left, exists_and_right, List.cons.injEq, and_true, true_and, V.int.injEq, V.str.injEq, V.bl.injEq, V.ref.injEq, List.replicate, Nat.reduceAdd, Nat.reduceSub, reduceCtorEq, false_and, and_false, if_true, if_false, Bool.false_eq_true, Bool.not_true, Bool.not_false, decide_eq_true_eq, exists_false, or_false, false_or]
        refine ⟨_, .inl ⟨SqL.of hn1, fun t ht => ⟨t, ns, rfl, .inr (sqT_of upd_same), by omega, okS, .inr (.inr ⟨ne0, gn, nd, ?_⟩)⟩⟩⟩
        rw [if_pos (by omega)]
        intro H2 y s2 ny tr
        have s12 := (same_new (o := .tup (wV ns)) ht).trans s2
        obtain ⟨dx, lv, nd2, d2, lo, ab, hx, _⟩ := id tr
        refine ⟨_, rfl, _, _, _, hx, tc.cls, tc.fld _ (by decide), _, rfl, _, .inl (SqL.of (s12 _ _ hn1)), fun l hl => ⟨l, ns, rfl, .inl (SqL.of upd_same), by omega, okS, .inr (.inr ⟨ne0, gn, nd, ?_⟩)⟩⟩
        rw [if_pos (by omega)]
        intro H3 y' s3 ny' tr'
        have s23 := (same_new (o := .lst (wV ns)) hl).trans s3
        obtain ⟨dx', lv', nd', d', lo', ab', hx', _⟩ := id tr'
        refine ⟨_, rfl, _, _, _, hx', tc.cls, tc.fld _ (by decide), _, rfl, small (by decide), fun p1 hp1 => ⟨small (by decide), fun p2 hp2 => ?_⟩⟩
        have s34 := same_new (o := .lst [spV (P20.combL ns), spV (P20.combL ns)]) hp1
        have s45 := same_new (o := .lst [spV (P20.combL ns), spV (P20.combL ns)]) hp2
        refine ⟨_, _, rfl, lk_seq (n := 2) (.inl ⟨s45 _ _ upd_same, upd_same⟩) (fun z hz => ?_) (by simp), fun H' s' => ⟨true, rfl, ?_⟩⟩
        · simp only [List.mem_cons, List.not_mem_nil, or_false] at hz
          rcases hz with rfl | rfl
          · exact ⟨_, rfl⟩
          · exact ⟨_, rfl⟩
        · rw [if_neg (by decide)]
          exact hn _ _ ⟨rfl, g1.sm (s12.trans (s23.trans (s34.trans (s45.trans s'))))⟩
    rintro σ' H2 ⟨rfl, g2⟩
    have keepN : ∀ {G : Hp}, Go T2 b H G → G n = some (wordsV ns) := fun g => g.keep _ _ nb hn0 (fun _ z => by cases z)
    refine seq_cut (fun σ' H' => ∃ k : Nat, σ' = [some (.ref b), some (.ref n), some (.str (S (P20.spell (P20.combL ns)))), y3, some (.int (k : Int)), none] ∧ Go T2 b H H' ∧ k ≤ ns.length) (fun D' hrt hn => ?_) ?_
    · simp only [L2.start, cxOf, tRet, tAndV, tOrV, tNotV, tCB, tCons, tNil, tVar, tC, tOp, tUn, tTest, tB, tIf, tIfS, tSeq, tAsg, tAnd, tOr, tNot, gName, tNext, tCall, tChain, rI, rI0, rEq, rNe, rGcd, rU, tM1, tM0, tSl, tPart, tNoPart, gTup, gCons, gNil, gSub, tTup, tLst, tPar, L2.rI, List.map_cons, List.map_nil, List.length_cons, List.length_nil, List.cons_append, List.nil_append, List.append_nil, List.getElem?_cons_zero, List.getElem?_cons_succ, List.set_cons_zero, List.set_cons_succ, Option.some.injEq, exists_eq_left, exists_eq_left', exists_eq_right, exists_and_left, exists_and_right, List.cons.injEq, and_true, true_and, V.int.injEq, V.str.injEq, V.bl.injEq, V.ref.injEq, List.replicate, Nat.reduceAdd, Nat.reduceSub, reduceCtorEq, false_and, and_false, if_true, if_false, Bool.false_eq_true, Bool.not_true, Bool.not_false, decide_eq_true_eq, exists_false, or_false, false_or]
      refine ⟨_, lenN (keepN g2), b, _, rfl, g2.bag, by omega, by omega, fun H3 k x3 k0 k1 => ?_⟩
      obtain ⟨k, rfl⟩ := Int.eq_ofNat_of_zero_le k0
      exact hn _ _ ⟨k, rfl, g2.ex x3, by omega⟩
    rintro σ' H3 ⟨k, rfl, g3, kl⟩
    refine seq_cut (fun σ' H' => ∃ u : P20.Wd, σ' = [some (.ref b), some (.ref n), some (.str (S (P20.spell (P20.combL ns)))), some (.str (S u)), some (.int (k : Int)), none] ∧ Go T2 b H H' ∧ u.length ≤ 20 ∧ PyData.strOk (S u) = true ∧ (u ∈ ns ∨ nameB u = false)) (fun D' hrt hn => ?_) ?_
    · simp only [L2.start, cxOf, tRet, tAndV, tOrV, tNotV, tCB, tCons, tNil, tVar, tC, tOp, tUn, tTest, tB, tIf, tIfS, tSeq, tAsg, tAnd, tOr, tNot, gName, tNext, tCall, tChain, rI, rI0, rEq, rNe, rGcd, rU, tM1, tM0, tSl, tPart, tNoPart, gTup, gCons, gNil, gSub, tTup, tLst, tPar, L2.rI, List.map_cons, List.map_nil, List.length_cons, List.length_nil, List.cons_append, List.nil_append, List.append_nil, List.getElem?_cons_zero, List.getElem?_cons_succ, List.set_cons_zero, List.set_cons_succ, Option.some.injEq, exists_eq_left, exists_eq_left', exists_eq_right, exists_and_left, exists_and_right, List.cons.injEq, and_true, true_and, V.int.injEq, V.str.injEq, V.bl.injEq, V.ref.injEq, List.replicate, Nat.reduceAdd, Nat.reduceSub, reduceCtorEq, false_and, and_false, if_true, if_false, Bool.false_eq_true, Bool.not_true, Bool.not_false, decide_eq_true_eq, exists_false, or_false, false_or]
      refine ⟨b, _, rfl, g3.bag, .inl ⟨n, _, rfl, keepN g3, nb, by rw [List.length_map]; omega, by rw [List.length_map]; omega, fun H4 v4 x4 m4 => ?_⟩⟩
      refine ⟨rfl, fun p hp => pick_new x4.bag hp (by decide) (by decide) fun H5 z x5 hz => ?_⟩
      obtain ⟨zr, hzr, rfl⟩ := List.mem_map.mp hz
      refine ⟨small (by decide), fun p hp => pick_new x5.bag hp (by simp) (by simp) fun H6 v6 x6 m6 => ?_⟩
      have g6 := ((g3.ex x4).ex x5).ex x6
      have lit : ∀ z : Str, z.length ≤ 20 → PyData.strOk z = true → nameB z.cps.toList = false → ∃ u : P20.Wd, V.str z = .str (S u) ∧ u.length ≤ 20 ∧ PyData.strOk (S u) = true ∧ (u ∈ ns ∨ nameB u = false) := fun z h1 h2 h3 => ⟨z.cps.toList, by rw [S_tl], by rw [← S_len, S_tl]; exact h1, by rw [S_tl]; exact h2, .inr h3⟩
      have key : ∃ u : P20.Wd, v6 = .str (S u) ∧ u.length ≤ 20 ∧ PyData.strOk (S u) = true ∧ (u ∈ ns ∨ nameB u = false) := by
        simp only [List.mem_cons, List.not_mem_nil, or_false] at m6
        rcases m6 with rfl | rfl | rfl | rfl | rfl | rfl | rfl | rfl
        · obtain ⟨u4, h4, rfl⟩ := List.mem_map.mp m4
          exact ⟨u4, rfl, by have := ok8 u4 h4; omega, name_ok (gn u4 h4), .inl h4⟩
        · obtain ⟨h1, h2, h3⟩ := (show ∀ z ∈ W20.reserved, z.length ≤ 20 ∧ PyData.strOk z = true ∧ nameB z.cps.toList = false by decide +kernel) zr hzr
          exact lit _ h1 h2 h3
        · exact lit _ (by decide +kernel) (by decide +kernel) (by decide +kernel)
        · exact lit _ (by decide +kernel) (by decide +kernel) (by decide +kernel)
        · exact lit _ (by decide +kernel) (by decide +kernel) (by decide +kernel)
        · exact lit _ (by decide +kernel) (by decide +kernel) (by decide +kernel)
        · exact lit _ (by decide +kernel) (by decide +kernel) (by decide +kernel)
        · exact lit _ (by decide +kernel) (by decide +kernel) (by decide +kernel)
      obtain ⟨u, rfl, h1, h2, h3⟩ := key
      exact hn _ _ ⟨u, rfl, g6, h1, h2, h3⟩
    rintro σ' H4 ⟨u, rfl, g4, lu, ou, alt⟩
    refine seq_cut (fun σ' H' => ∃ t : Addr, σ' = [some (.ref b), some (.ref n), some (.str (S (P20.spell (P20.combL ns)))), some (.str (S u)), some (.int (k : Int)), some (.ref t)] ∧ Go T2 b H H' ∧ H' t = some (.tup (wV (ns.take k ++ [u] ++ ns.drop k)))) (fun D' hrt hn => ?_) ?_
    · simp only [L2.start, cxOf, tRet, tAndV, tOrV, tNotV, tCB, tCons, tNil, tVar, tC, tOp, tUn, tTest, tB, tIf, tIfS, tSeq, tAsg, tAnd, tOr, tNot, gName, tNext, tCall, tChain, rI, rI0, rEq, rNe, rGcd, rU, tM1, tM0, tSl, tPart, tNoPart, gTup, gCons, gNil, gSub, tTup, tLst, tPar, L2.rI, List.map_cons, List.map_nil, List.length_cons, List.length_nil, List.cons_append, List.nil_append, List.append_nil, List.getElem?_cons_zero, List.getElem?_cons_succ, List.set_cons_zero, List.set_cons_succ, Option.some.injEq, exists_eq_left, exists_eq_left', exists_eq_right, exists_and_left, exists_and_right, List.cons.injEq, and_true, true_and, V.int.injEq, V.str.injEq, V.bl.injEq, V.ref.injEq, List.replicate, Nat.reduceAdd, Nat.reduceSub, reduceCtorEq, false_and, and_false, if_true, if_false, Bool.false_eq_true, Bool.not_true, Bool.not_false, decide_eq_true_eq, exists_false, or_false, false_or]
      have hn4 := keepN g4
      have lT : (ns.take k).length = k := by rw [List.length_take]; omega
      have lD : (ns.drop k).length = ns.length - k := List.length_drop
      refine sl_to hn4 kl fun G1 p1 t1 n1 q1 => ⟨small (by decide), fun p2 hp2 => ?_⟩
      have t2 := same_new (o := .lst [V.str (S u)]) hp2
      refine catW (vs := [u]) (t2 _ _ q1) upd_same (by rw [lT, lW]; omega) fun G3 p3 t3 n3 q3 => ?_
      have t13 := t1.trans (t2.trans t3)
      refine sl_fr (t13 _ _ hn4) fun G4 p4 t4 n4 q4 => catW (t4 _ _ q3) q4 (by rw [List.length_append, lT, lD, lW]; omega) fun G5 p5 t5 n5 q5 => ?_
      exact ⟨_, rfl, _, .inl ⟨SqL.of q5, fun t ht => hn _ _ ⟨t, rfl, g4.sm ((t13.trans (t4.trans t5)).trans (same_new ht)), upd_same⟩⟩⟩
    rintro σ' H5 ⟨t, rfl, g5, ht5⟩
    have tbn : t ≠ b := fun z => by
      obtain ⟨l, ns', pos, big, mixed, cnt, left, hb, _⟩ := g5.bag
      rw [z, hb] at ht5
      cases ht5
    have lws : (ns.take k ++ [u] ++ ns.drop k).length = ns.length + 1 := by
      rw [List.length_append, List.length_append, List.length_take, List.length_drop, lW]
      omega
    have okW : ∀ v ∈ ns.take k ++ [u] ++ ns.drop k, v.length ≤ 1000 ∧ PyData.strOk (S v) = true := fun v hv => by
      rcases List.mem_append.mp hv with hv | hv
      · rcases List.mem_append.mp hv with hv | hv
        · exact okS v (List.mem_of_mem_take hv)
        · rw [List.mem_singleton.mp hv]
          exact ⟨by omega, ou⟩
      · exact okS v (List.mem_of_mem_drop hv)
    have badW : ¬ (∀ v ∈ ns.take k ++ [u] ++ ns.drop k, nameB v = true) ∨ ¬ (ns.take k ++ [u] ++ ns.drop k).Nodup := by
      rcases alt with h | h
      · exact .inr (P20.nd_twice (by rw [List.take_append_drop]; exact h))
      · refine .inl fun z => ?_
        rw [z u (List.mem_append_left _ (List.mem_append_right _ (List.mem_singleton.mpr rfl)))] at h
        cases h
    have neW : ns.take k ++ [u] ++ ns.drop k ≠ [] := by simp
    generalize ns.take k ++ [u] ++ ns.drop k = ws at ht5 lws okW badW neW
    refine seq_cut (fun σ' H' => Go T2 b H H') (fun D' hrt hn => ?_) ?_
    · simp only [L2.start, cxOf, tRet, tAndV, tOrV, tNotV, tCB, tCons, tNil, tVar, tC, tOp, tUn, tTest, tB, tSeq, tAsg, tNot, gName, tNext, tCall, tChain, rI, rI0, rEq, rNe, rGcd, rU, tM1, tM0, tSl, tPart, tNoPart, gTup, gCons, gNil, gSub, tTup, tLst, tPar, L2.rI, List.map_cons, List.map_nil, List.length_cons, List.length_nil, List.cons_append, List.nil_append, List.append_nil, List.getElem?_cons_zero, List.getElem?_cons_succ, List.set_cons_zero, List.set_cons_succ, Option.some.injEq, exists_eq_left, exists_eq_left', exists_eq_right, exists_and_left, exists_and_right, List.cons.injEq, and_true, true_and, V.int.injEq, V.str.injEq, V.bl.injEq, V.ref.injEq, List.replicate, Nat.reduceAdd, Nat.reduceSub, reduceCtorEq, false_and, and_false, if_true, if_false, Bool.false_eq_true, Bool.not_true, Bool.not_false, decide_eq_true_eq, exists_false, or_false, false_or, tIfS]
      refine ref_bad g5.bag g5.tabs (fun H' Q' E' g er => ?_) fun H' g => ⟨true, rfl, ?_⟩
      · simp only [tCallS, WE, L2.start, cxOf, tRet, tAndV, tOrV, tNotV, tCB, tCons, tNil, tVar, tC, tOp, tUn, tTest, tB, tIf, tIfS, tSeq, tAsg, tAnd, tOr, tNot, gName, tNext, tCall, tChain, rI, rI0, rEq, rNe, rGcd, rU, tM1, tM0, tSl, tPart, tNoPart, gTup, gCons, gNil, gSub, tTup, tLst, tPar, L2.rI, List.map_cons, List.map_nil, List.length_cons, List.length_nil, List.cons_append, List.nil_append, List.append_nil, List.getElem?_cons_zero, List.getElem?_cons_succ, List.set_cons_zero, List.set_cons_succ, Option.some.injEq, exists_eq_left, exists_eq_left', exists_eq_right, exists_and_left, exists_and_right, List.cons.injEq, and_true, true_and, V.int.injEq, V.str.injEq, V.bl.injEq, V.ref.injEq, List.replicate, Nat.reduceAdd, Nat.reduceSub, reduceCtorEq, false_and, and_false, if_true, if_false, Bool.false_eq_true, Bool.not_true, Bool.not_false, decide_eq_true_eq, exists_false, or_false, false_or]
        have ht' := g.keep _ _ tbn ht5 (fun _ z => by cases z)
        exact ⟨t, ws, rfl, .inr (sqT_of ht'), by omega, okW, .inr (.inl ⟨neW, badW, fun G d s5 n5 e5 => er _ (by decide +kernel) (by decide +kernel) G d s5 n5 e5⟩)⟩
      · rw [if_neg (by decide)]
        exact hn _ _ (g5.tr g)
    intro σ' H6 g6
    simp only [L2.start, cxOf, tRet, tAndV, tOrV, tNotV, tCB, tCons, tNil, tVar, tC, tOp, tUn, tTest, tB, tSeq, tAsg, tNot, gName, tNext, tCall, tChain, rI, rI0, rEq, rNe, rGcd, rU, tM1, tM0, tSl, tPart, tNoPart, gTup, gCons, gNil, gSub, tTup, tLst, tPar, L2.rI, List.map_cons, List.map_nil, List.length_cons, List.length_nil, List.cons_append, List.nil_append, List.append_nil, List.getElem?_cons_zero, List.getElem?_cons_succ, List.set_cons_zero, List.set_cons_succ, Option.some.injEq, exists_eq_left, exists_eq_left', exists_eq_right, exists_and_left, exists_and_right, List.cons.injEq, and_true, true_and, V.int.injEq, V.str.injEq, V.bl.injEq, V.ref.injEq, List.replicate, Nat.reduceAdd, Nat.reduceSub, reduceCtorEq, false_and, and_false, if_true, if_false, Bool.false_eq_true, Bool.not_true, Bool.not_false, decide_eq_true_eq, exists_false, or_false, false_or]
    refine ref_bad g6.bag g6.tabs (fun H' Q' E' g er => ?_) fun H' g => q _ (g6.tr g)
    simp only [tCallS, WE, L2.start, cxOf, tRet, tAndV, tOrV, tNotV, tCB, tCons, tNil, tVar, tC, tOp, tUn, tTest, tB, tIf, tIfS, tSeq, tAsg, tAnd, tOr, tNot, gName, tNext, tCall, tChain, rI, rI0, rEq, rNe, rGcd, rU, tM1, tM0, tSl, tPart, tNoPart, gTup, gCons, gNil, gSub, tTup, tLst, tPar, L2.rI, List.map_cons, List.map_nil, List.length_cons, List.length_nil, List.cons_append, List.nil_append, List.append_nil, List.getElem?_cons_zero, List.getElem?_cons_succ, List.set_cons_zero, List.set_cons_succ, Option.some.injEq, exists_eq_left, exists_eq_left', exists_eq_right, exists_and_left, exists_and_right, List.cons.injEq, and_true, true_and, V.int.injEq, V.str.injEq, V.bl.injEq, V.ref.injEq, List.replicate, Nat.reduceAdd, Nat.reduceSub, reduceCtorEq, false_and, and_false, if_true, if_false, Bool.false_eq_true, Bool.not_true, Bool.not_false, decide_eq_true_eq, exists_false, or_false, false_or]
    refine ⟨small (by decide), fun p hp => ⟨p, [], rfl, .inr (sqT_of upd_same), by decide, by simp, .inl ⟨rfl, ?_⟩⟩⟩
    exact fun G d s5 n5 e5 => (er _ (by decide +kernel) (by decide +kernel)).mono (same_new hp) G d s5 n5 e5
end
end W20

set_option Elab.async false
set_option linter.all false
/-! NQ20: texts with too many brackets are no trees (pure) -/
namespace P20
open Tr
def nb (w : Wd) : Bool := decide (w ≠ [40] ∧ w ≠ [41])
def sg (c : Nat) : Bool := decide (c ≠ 32 ∧ c ≠ 40 ∧ c ≠ 41)
theorem fl_count (a : Wd) : (fl a).countP nb ≤ a.length := by
  by_cases h : a = []
  · rw [h, fl_nil]
    exact Nat.le_refl _
  · rw [fl_ne h]
    have h1 : 0 < a.length := List.length_pos_iff.mpr h
    have h2 := List.countP_le_length (p := nb) (l := [a])
    simp only [List.length_cons, List.length_nil] at h2
    omega
theorem fl_len (a : Wd) : (fl a).length ≤ a.length := by
  by_cases h : a = []
  · rw [h, fl_nil]
    exact Nat.le_refl _
  · rw [fl_ne h]
    have h1 : 0 < a.length := List.length_pos_iff.mpr h
    simp only [List.length_cons, List.length_nil]
    omega
theorem step_brk {o : List Wd} {a : Wd} {c : Nat} (h1 : c ≠ 32) (h2 : c = 40 ∨ c = 41) : step (o, a) c = (o ++ fl a ++ [[c]], []) := by
  unfold step
  rw [if_neg h1, if_pos h2]
theorem step_sg {o : List Wd} {a : Wd} {c : Nat} (h1 : c ≠ 32) (h2 : ¬ (c = 40 ∨ c = 41)) : step (o, a) c = (o, a ++ [c]) := by
  unfold step
  rw [if_neg h1, if_neg h2]
theorem run_cons (s : List Wd × Wd) (c : Nat) (x : List Nat) : run s (c :: x) = run (step s c) x := rfl
theorem fin_names : ∀ (x : List Nat) (o : List Wd) (a : Wd), (fin (run (o, a) x)).countP nb ≤ o.countP nb + a.length + x.countP sg
  | [], o, a => by
    show (o ++ fl a).countP nb ≤ _
    rw [List.countP_append]
    have := fl_count a
    simp only [List.countP_nil]
    omega
  | c :: x, o, a => by
    rw [run_cons]
    have hf := fl_count a
    by_cases h1 : c = 32
    · subst h1
      have := fin_names x (o ++ fl a) []
      rw [List.countP_append] at this
      rw [show step (o, a) 32 = (o ++ fl a, []) from rfl, List.countP_cons]
      simp only [List.length_nil] at this
      omega
    · by_cases h2 : c = 40 ∨ c = 41
      · rw [step_brk h1 h2]
        have := fin_names x (o ++ fl a ++ [[c]]) []
        rw [List.countP_append, List.countP_append] at this
        have e : ([[c]] : List Wd).countP nb = 0 := by
          rcases h2 with rfl | rfl <;> decide
        rw [List.countP_cons]
        simp only [List.length_nil] at this
        omega
      · rw [step_sg h1 h2]
        have := fin_names x o (a ++ [c])
        rw [List.countP_cons, if_pos (show sg c = true from decide_eq_true ⟨h1, fun z => h2 (.inl z), fun z => h2 (.inr z)⟩)]
        rw [List.length_append, List.length_singleton] at this
        omega
theorem fin_opens : ∀ (x : List Nat) (o : List Wd) (a : Wd), o.count [40] + x.count 40 ≤ (fin (run (o, a) x)).count [40]
  | [], o, a => by
    show _ ≤ (o ++ fl a).count [40]
    rw [List.count_append]
    simp only [List.count_nil]
    omega
  | c :: x, o, a => by
    rw [run_cons]
    by_cases h1 : c = 32
    · subst h1
      have := fin_opens x (o ++ fl a) []
      rw [List.count_append] at this
      rw [show step (o, a) 32 = (o ++ fl a, []) from rfl, List.count_cons, if_neg (by decide)]
      omega
    · by_cases h2 : c = 40 ∨ c = 41
      · rw [step_brk h1 h2]
        have := fin_opens x (o ++ fl a ++ [[c]]) []
        rw [List.count_append, List.count_append] at this
        rw [List.count_cons]
        rcases h2 with rfl | rfl
        · have e : ([[40]] : List Wd).count [40] = 1 := by decide
          rw [if_pos (by decide)]
          omega
        · rw [if_neg (by decide)]
          omega
      · rw [step_sg h1 h2]
        have := fin_opens x o (a ++ [c])
        rw [List.count_cons, if_neg (by
          rw [beq_iff_eq]
          exact fun z => h2 (.inl z))]
        omega
theorem fin_len : ∀ (x : List Nat) (o : List Wd) (a : Wd), (fin (run (o, a) x)).length ≤ o.length + a.length + x.length
  | [], o, a => by
    show (o ++ fl a).length ≤ _
    rw [List.length_append]
    have := fl_len a
    simp only [List.length_nil]
    omega
  | c :: x, o, a => by
    rw [run_cons]
    have hf := fl_len a
    by_cases h1 : c = 32
    · subst h1
      have := fin_len x (o ++ fl a) []
      rw [List.length_append] at this
      rw [show step (o, a) 32 = (o ++ fl a, []) from rfl, List.length_cons]
      simp only [List.length_nil] at this
      omega
    · by_cases h2 : c = 40 ∨ c = 41
      · rw [step_brk h1 h2]
        have := fin_len x (o ++ fl a ++ [[c]]) []
        rw [List.length_append, List.length_append] at this
        simp only [List.length_nil, List.length_cons] at this
        rw [List.length_cons]
        omega
      · rw [step_sg h1 h2]
        have := fin_len x o (a ++ [c])
        rw [List.length_append, List.length_singleton] at this
        rw [List.length_cons]
        omega
theorem fin_each : ∀ (x : List Nat) (o : List Wd) (a : Wd) (u : Wd), u ∈ fin (run (o, a) x) → u ∈ o ∨ u.length ≤ a.length + x.length
  | [], o, a, u, h => by
    rcases List.mem_append.mp (show u ∈ o ++ fl a from h) with z | z
    · exact .inl z
    · refine .inr ?_
      by_cases e : a = []
      · rw [e, fl_nil] at z
        cases z
      · rw [fl_ne e] at z
        rw [List.mem_singleton.mp z]
        exact Nat.le_add_right _ _
  | c :: x, o, a, u, h => by
    rw [run_cons] at h
    have fla : u ∈ fl a → u.length ≤ a.length := fun z => by
      by_cases e : a = []
      · rw [e, fl_nil] at z
        cases z
      · rw [fl_ne e] at z
        rw [List.mem_singleton.mp z]
        exact Nat.le_refl _
    rw [List.length_cons]
    by_cases h1 : c = 32
    · subst h1
      rw [show step (o, a) 32 = (o ++ fl a, []) from rfl] at h
      rcases fin_each x _ _ u h with z | z
      · rcases List.mem_append.mp z with z | z
        · exact .inl z
        · have := fla z
          exact .inr (by omega)
      · rw [List.length_nil] at z
        exact .inr (by omega)
    · by_cases h2 : c = 40 ∨ c = 41
      · rw [step_brk h1 h2] at h
        rcases fin_each x _ _ u h with z | z
        · rcases List.mem_append.mp z with z | z
          · rcases List.mem_append.mp z with z | z
            · exact .inl z
            · have := fla z
              exact .inr (by omega)
          · rw [List.mem_singleton.mp z]
            exact .inr (by simp only [List.length_cons, List.length_nil]; omega)
        · rw [List.length_nil] at z
          exact .inr (by omega)
      · rw [step_sg h1 h2] at h
        rcases fin_each x _ _ u h with z | z
        · exact .inl z
        · rw [List.length_append, List.length_singleton] at z
          exact .inr (by omega)
theorem toks_count : ∀ {t : Tr}, Ok t → (toks t).countP nb = (toks t).count [40] + 1
  | leaf w, h => by
    have hw := h.name.plain
    have e1 : nb w = true := decide_eq_true hw
    have e2 : (w == [40]) = false := by
      rw [beq_eq_false_iff_ne]
      exact hw.1
    show ([w] : List Wd).countP nb = ([w] : List Wd).count [40] + 1
    rw [List.countP_cons, List.count_cons, if_pos e1, e2]
    rfl
  | node l r, h => by
    have h1 := toks_count h.l
    have h2 := toks_count h.r
    show ([40] :: (toks l ++ (toks r ++ [[41]]))).countP nb = ([40] :: (toks l ++ (toks r ++ [[41]]))).count [40] + 1
    rw [List.countP_cons, List.countP_append, List.countP_append, List.count_cons, List.count_append, List.count_append, h1, h2]
    have e1 : nb [40] = false := by decide
    have e2 : ([[41]] : List Wd).countP nb = 0 := by decide
    have e3 : ([[41]] : List Wd).count [40] = 0 := by decide
    rw [e1, e2, e3]
    simp
    omega
/-- a text with more opening brackets than signs of names is no tree's -/
theorem deep_none {P : Wd → Bool} (hn : ∀ w, P w = true → Name w) {x : List Nat} (h : x.countP sg ≤ x.count 40) : readOf P (words x) = none := by
  cases e : readOf P (words x) with
  | none => rfl
  | some p =>
    obtain ⟨u, t⟩ := p
    obtain ⟨e1, _, good, _⟩ := read_sound hn e
    have h1 := fin_names x [] []
    have h2 := fin_opens x [] []
    have h3 := toks_count good.ok
    rw [← e1] at h3
    have h1 : (words x).countP nb ≤ _ := h1
    have h2 : _ ≤ (words x).count [40] := h2
    simp only [List.countP_nil, List.count_nil, List.length_nil] at h1 h2
    omega
theorem words_len (x : List Nat) : (words x).length ≤ x.length := by
  have := fin_len x [] []
  simp only [List.length_nil] at this
  show (fin (run ([], []) x)).length ≤ _
  omega
theorem words_each {x : List Nat} {u : Wd} (h : u ∈ words x) : u.length ≤ x.length := by
  rcases fin_each x [] [] u h with z | z
  · cases z
  · rw [List.length_nil] at z
    omega
end P20

set_option Elab.async false
set_option linter.all false
set_option maxRecDepth 100000
set_option maxHeartbeats 4000000
/-! NE20: the law -/
namespace W20
open PySem PySem.Spec PyProof.Rows L2 Lay LamX
open SX (S S_len S_cat S_tl)
open C8 (Cal Mak pe_c pe_mk pe_gc fnScope_by E0)
def q64 : Str := ("law" : Str) ++ (".<locals>." : Str) ++ ("<lambda>" : Str)
def T4 (Pa Pt Pc Pl : Addr) : List (Addr × Str) := [(Pa, q60), (Pt, q61), (Pc, q63), (Pl, q64)]
theorem perm_pl {ys : List V} {ps : List Nat} (h : ys.Perm (plV ps)) : ∃ qs, ys = plV qs ∧ qs.Perm ps := by
  let g : V → Nat := fun v => match v with
    | .int i => i.toNat
    | _ => 0
  refine ⟨ys.map g, ?_, ?_⟩
  · unfold plV
    rw [List.map_map]
    have e : ∀ y ∈ ys, ((fun k : Nat => V.int ((k : Nat) : Int)) ∘ g) y = y := fun y hy => by
      obtain ⟨k, _, rfl⟩ := List.mem_map.mp (h.mem_iff.mp hy)
      show V.int (((k : Int).toNat : Nat) : Int) = _
      rw [Int.toNat_natCast]
    exact ((List.map_congr_left e).trans (List.map_id' ys)).symm
  · have := h.map g
    unfold plV at this
    rw [List.map_map] at this
    have e : ∀ k ∈ ps, (g ∘ fun k : Nat => V.int ((k : Nat) : Int)) k = k := fun k _ => Int.toNat_natCast k
    rw [(List.map_congr_left e).trans (List.map_id' ps)] at this
    exact this
theorem range_get {ns : List P20.Wd} : (List.range ns.length).map (fun p => ns[p]?) = ns.map some := by
  refine List.ext_getElem (by simp) fun i h1 h2 => ?_
  rw [List.length_map] at h2
  rw [List.getElem_map, List.getElem_map, List.getElem_range, List.getElem?_eq_getElem h2]
/-- the leaves of a table whose places are all places -/
theorem lab_perm {ns : List P20.Wd} {t : P20.PT} {qs : List Nat} (lab : P20.Lab ns t) (e : t.pl = qs) (h : qs.Perm (List.range ns.length)) : (P20.leaves t.er).Perm ns := by
  have h1 := lab.words
  rw [e] at h1
  have h2 : ((P20.leaves t.er).map some).Perm (ns.map some) := by
    rw [← h1, ← range_get]
    exact h.map _
  have h3 := h2.filterMap id
  rw [List.filterMap_map, List.filterMap_map] at h3
  simpa using h3
theorem tab_last {X : Addr → Prop} {K : PySem.W.Frag} {H : Hp} {t : P20.PT} {v : V} {R : VK} (h : TabAt X H (P20.rows t) v) (k : R (.str (S (P20.spell t.er))) H) : rIxL K v (.int (-1)) H fun x H1 => rIxL K x (.int 0) H1 R := by
  obtain ⟨na, nv, rfl, _, hna, hrs⟩ := h
  have lnv : (P20.rows t).length = nv.length := hrs.length
  obtain ⟨li, lj, elast⟩ := P20.rows_last t
  obtain ⟨rv, hrv, lc, lp, rfl, _, _, hlc, hlp⟩ : ∃ rv, nv.getLast? = some rv ∧ RowAt X H ⟨P20.spell t.er, t.pl, li, lj⟩ rv := by
    rw [List.getLast?_eq_getElem?] at elast ⊢
    rw [← lnv]
    exact paired_at' hrs elast
  exact ⟨na, nv, -1, _, rfl, rfl, SqL.of hna, at_last hrv, ixL (SqL.of hlc) 0 rfl k⟩
/-- what stands between the statements -/
structure Lw (T2 : List (Addr × Str)) (b n ld tl : Addr) (v : V) (t : P20.PT) (ws : List P20.Wd) (H : Hp) : Prop where
  bag : Bag H b
  tabs : Tabs T2 H
  hn : H n = some (wordsV ws)
  nb : n ≠ b
  land : LandAt H ld ws
  tab : TabAt (fun _ => True) H (P20.rows t) v
  htl : H tl = some (wordsV (P20.toks t.er))
  tlb : tl ≠ b
theorem Lw.go {T2 : List (Addr × Str)} {b n ld tl : Addr} {v : V} {t : P20.PT} {ws : List P20.Wd} {H H' : Hp} (s : Lw T2 b n ld tl v t ws H) (g : Go T2 b H H') : Lw T2 b n ld tl v t ws H' :=
  ⟨g.bag, g.tabs, g.keep _ _ s.nb s.hn (fun _ z => by cases z), s.nb, s.land.gt s.bag g.keep, s.tab.gt s.bag g.keep, g.keep _ _ s.tlb s.htl (fun _ z => by cases z), s.tlb⟩
theorem Lw.rf {T2 : List (Addr × Str)} {b n ld tl : Addr} {v : V} {t : P20.PT} {ws : List P20.Wd} {H : Hp} (s : Lw T2 b n ld tl v t ws H) : Go T2 b H H := Go.rf s.bag s.tabs
theorem Lw.ex {T2 : List (Addr × Str)} {b n ld tl : Addr} {v : V} {t : P20.PT} {ws : List P20.Wd} {H H' : Hp} (s : Lw T2 b n ld tl v t ws H) (x : Ex b H H') : Lw T2 b n ld tl v t ws H' := s.go (s.rf.ex x)
theorem Lw.sm {T2 : List (Addr × Str)} {b n ld tl : Addr} {v : V} {t : P20.PT} {ws : List P20.Wd} {H H' : Hp} (s : Lw T2 b n ld tl v t ws H) (x : Same H H') : Lw T2 b n ld tl v t ws H' := s.go (s.rf.sm x)
theorem z_many {v : V} (h : v ∈ ([.int 1, .int 2, .int 2, .int 3, .int 3, .int 4, .int 5, .int 6, .int 8, .int 12, .int 24, .int 25] : List V)) : ∃ n : Nat, v = .int (n : Int) ∧ 1 ≤ n ∧ n ≤ 25 := by
  simp only [List.mem_cons, List.not_mem_nil, or_false] at h
  rcases h with rfl | rfl | rfl | rfl | rfl | rfl | rfl | rfl | rfl | rfl | rfl | rfl
  · exact ⟨1, rfl, by decide, by decide⟩
  · exact ⟨2, rfl, by decide, by decide⟩
  · exact ⟨2, rfl, by decide, by decide⟩
  · exact ⟨3, rfl, by decide, by decide⟩
  · exact ⟨3, rfl, by decide, by decide⟩
  · exact ⟨4, rfl, by decide, by decide⟩
  · exact ⟨5, rfl, by decide, by decide⟩
  · exact ⟨6, rfl, by decide, by decide⟩
  · exact ⟨8, rfl, by decide, by decide⟩
  · exact ⟨12, rfl, by decide, by decide⟩
  · exact ⟨24, rfl, by decide, by decide⟩
  · exact ⟨25, rfl, by decide, by decide⟩
section
variable {P : Program} {w : World} {K : PySem.W.Frag} {mg : Str → Option Value} {base : Heap} {fE CB CN CM : Addr} {fd fdE : FuncData}
theorem sd64 : FnScope ["script", "bag", "names", "land", "nodes", "words", "turn", "other", "deep"] ["script"] (defScope (top 64)) := fnScope_by (by decide +kernel)
def spLaw (K : PySem.W.Frag) (T2 : List (Addr × Str)) : Sp := fun vs H Q _ => ∃ (a : Addr) (ns : List Int), vs = [.ref a] ∧ SqL K H a (ns.map V.int) ∧ (∀ p ∈ T2, H p.1 = some (.tbl #[])) ∧ ∀ H', Q (.bl true) H'
theorem ok_law (m : Mg K mg) (ti : Ti K) (tc : Tc K mg) (c__law_bag : Cal P w K mg base 1 "_law_bag" (spBag K) []) (c__law_draw : Cal P w K mg base 1 "_law_draw" spDraw []) (c__law_of : Cal P w K mg base 2 "_law_of" spPick []) (c__law_names : Cal P w K mg base 4 "_law_names" spNamesL [])
    (c__law_mix : Cal P w K mg base 2 "_law_mix" spMix []) (c__law_bare_land : Cal P w K mg base 1 "_law_bare_land" spBare []) (c__law_cut : Cal P w K mg base 27 "_law_cut" (spCut 25) []) (c__law_tokens : Cal P w K mg base 1 "_law_tokens" spTW []) (c__law_spaced : Cal P w K mg base 3 "_law_spaced" spSpaced [])
    (c__law_bent : Cal P w K mg base 4 "_law_bent" spBent []) (c__law_like : Cal P w K mg base 4 "_law_like" (spLike 4) []) (c__law_bad : Cal P w K mg base 1 "_law_bad" spBad [])
    (c_Tree : MakN P w K mg base 4 "Tree" (cT K) (spInit (cT K) CB CM)) (c_refused : CalL P w K mg base 9 7 "_law_refused" (spRef CB CN CM))
    (EF : FnOk P w K mg base C8.CX0 1 fE fdE ["self", "other"] (spEqA K (cT K))) (eAt : PySem.W.findIn K (.ref (cT K)) "__eq__" = some (some (.ref fE))) (eFn : PySem.W.isFn K (.ref fE) = true) (eB : Binds K fdE ["self", "other"] [])
    (F : FunD K "law" "law" (defArgs (top 64)) (defBody (top 64)) (defScope (top 64)) [] [] (He.fAd K ("law", none)) fd) {c Pt : Addr} {T2 : List (Addr × Str)} (memT : (Pt, q64) ∈ T2) (huT : ∀ p ∈ T2, p.1 = Pt → p.2 = q64)
    (c__law_tree_right : Cal P w K mg base 12 "_law_tree_right" (spTreeR T2) []) (c__law_comb_right : Cal P w K mg base 11 "_law_comb_right" (spCombR T2) [])
    (hcT : He.codeOf K ("law", none) = c) (TB : TabB base mg c Pt) : FnOk P w K mg base C8.CX0 31 (He.fAd K ("law", none)) fd ["script"] (spLaw K T2) := by
  have sc := sd64
  obtain ⟨oc, od, dV, kV, doc, pm, an, cdv, ct, osl, rfl, lk, hcd, _, _⟩ := F.ex
  obtain ⟨c0, rfl⟩ := He.codeIn_ref hcd
  obtain rfl : c0 = c := by rw [← hcT]; exact (He.codeOf_eq lk rfl).symm
  obtain ⟨gTf, gTd, gTp, fT, gT, kpT, bT⟩ := c_refused.ex
  refine fn_of (k := 30) lk hcd sc ?_ fun A outer s H vs Q E hr h => ?_
  · rintro vs H Q E ⟨a, ns, rfl, _⟩
    rfl
  · obtain ⟨a, ns, rfl, sq, tb1, q⟩ := h
    refine ⟨_, PSs.nox (pss_cons (ps_set (i := 1) sc.nd rfl (.inl rfl) (pe_c c__law_bag hr (by omega) (by rfl) (pa_cons (pv 0) pa_nil)))
      (pss_cons (ps_set (i := 2) sc.nd rfl (.inl rfl) (pe_c c__law_names hr (by omega) (by rfl) (pa_cons (pv 1) (pa_cons (pe_c c__law_of hr (by omega) (by rfl) (pa_cons (pv 1) (pa_cons (pe_lst (pa_cons pe_int (pa_cons pe_int (pa_cons pe_int (pa_cons pe_int (pa_cons pe_int (pa_cons pe_int (pa_cons pe_int (pa_cons pe_int (pa_cons pe_int (pa_cons pe_int (pa_cons pe_int (pa_cons pe_int pa_nil))))))))))))) pa_nil))) (pa_cons (pe_lst pa_nil) pa_nil)))))
      (pss_cons (ps_set (i := 3) sc.nd rfl (.inl rfl) (pe_c c__law_bare_land hr (by omega) (by rfl) (pa_cons (pv 2) pa_nil)))
      (pss_cons (ps_set (i := 4) sc.nd rfl (.inl rfl) (pe_c c__law_cut hr (by omega) (by rfl) (pa_cons (pv 1) (pa_cons (pv 3) (pa_cons (pe_listRg rfl (by rfl) m.list_ (prg_1 (by rfl) m.range_ (pe_callB call_len (by rfl) m.len_ boot_len (pa_cons (pv 2) pa_nil)))) pa_nil)))))
      (pss_cons (ps_set (i := 5) sc.nd rfl (.inl rfl) (pe_c c__law_tokens hr (by omega) (by rfl) (pa_cons (pe_ix ix_list (pe_ix ix_list (pv 4) (pe_un un_neg pe_int) (fun _ _ => rfl)) pe_int (fun _ _ => rfl)) pa_nil)))
      (pss_cons (ps_if (pt_not (pt_val (pe_c c__law_tree_right hr (by omega) (by rfl) (pa_cons (pv 1) (pa_cons (pe_c c__law_spaced hr (by omega) (by rfl) (pa_cons (pv 1) (pa_cons (pv 5) pa_nil))) pa_nil)))))
        (pss_one (ps_ret pe_bl))
        pss_nil)
      (pss_cons (ps_for pown rfl (pi_range1 rfl m.range_ (pa_cons pe_int pa_nil)) (pg_name (i := 6) sc.nd rfl (.inl rfl))
        (pss_one (ps_if (pt_not (pt_val (pe_c c__law_tree_right hr (by omega) (by rfl) (pa_cons (pv 1) (pa_cons (pe_c c__law_spaced hr (by omega) (by rfl) (pa_cons (pv 1) (pa_cons (pe_c c__law_bent hr (by omega) (by rfl) (pa_cons (pv 1) (pa_cons (pv 5) (pa_cons (pv 2) pa_nil)))) pa_nil))) pa_nil)))))
          (pss_one (ps_ret pe_bl))
          pss_nil)))
      (pss_cons (ps_if (pt_cmpR op_lt (pe_callB call_len (by rfl) m.len_ boot_len (pa_cons (pv 2) pa_nil)) pe_int (nomark _))
        (pss_cons (ps_set (i := 7) sc.nd rfl (.inl rfl) (pe_c c__law_cut hr (by omega) (by rfl) (pa_cons (pv 1) (pa_cons (pv 3) (pa_cons (pe_c c__law_mix hr (by omega) (by rfl) (pa_cons (pv 1) (pa_cons (pe_listRg rfl (by rfl) m.list_ (prg_1 (by rfl) m.range_ (pe_callB call_len (by rfl) m.len_ boot_len (pa_cons (pv 2) pa_nil)))) pa_nil))) pa_nil)))))
        (pss_one (ps_if (pt_not (pt_val (pe_c c__law_like hr (by omega) (by rfl) (pa_cons (pe_cmpR (op_eqX EF eAt eFn eB (hr.mono (by omega))) (pe_mkN0 c_Tree hr (by omega) (by rfl) (pa_cons (pe_ix ix_list (pe_ix ix_list (pv 4) (pe_un un_neg pe_int) (fun _ _ => rfl)) pe_int (fun _ _ => rfl)) pa_nil)) (pe_mkN0 c_Tree hr (by omega) (by rfl) (pa_cons (pe_ix ix_list (pe_ix ix_list (pv 7) (pe_un un_neg pe_int) (fun _ _ => rfl)) pe_int (fun _ _ => rfl)) pa_nil)) (nomark _)) (pa_cons (pe_cmpR op_eq (pe_ix ix_list (pe_ix ix_list (pv 4) (pe_un un_neg pe_int) (fun _ _ => rfl)) pe_int (fun _ _ => rfl)) (pe_ix ix_list (pe_ix ix_list (pv 7) (pe_un un_neg pe_int) (fun _ _ => rfl)) pe_int (fun _ _ => rfl)) (nomark _)) pa_nil)))))
          (pss_one (ps_ret pe_bl))
          pss_nil)))
        pss_nil)
      (pss_cons (ps_if (pt_not (pt_val (pe_c c__law_comb_right hr (by omega) (by rfl) (pa_cons (pv 1) (pa_cons (pv 2) pa_nil)))))
        (pss_one (ps_ret pe_bl))
        pss_nil)
      (pss_cons (ps_set (i := 8) sc.nd rfl (.inr rfl) (pe_op op_add_str (pe_op op_add_str (pe_op op_repS pe_str pe_int) (pe_ix ix_list (pv 2) pe_int (fun _ _ => rfl))) (pe_c c__law_of hr (by omega) (by rfl) (pa_cons (pv 1) (pa_cons (pe_lst (pa_cons pe_str (pa_cons (pe_op op_repS pe_str pe_int) (pa_cons (pe_op op_repA pe_str pe_int) pa_nil)))) pa_nil)))))
      (pss_one (ps_ret (pe_lamN (CXL := L2N.CX P w) (T := T2) (E := fun _ => C8.E0) fT (hr.mono (by omega)) (by rfl) gT kpT bT (fun _ _ _ _ _ _ _ h => h.elim) TB rfl memT huT (lamS_by (sc := defScope (top 64)) (by decide +kernel)) (by rfl) (fun _ _ _ _ _ => by rfl) (fun A outer s H E f c' r => pe_mkN c_Tree r (by decide) (by rfl) (takesL rfl rfl) (pa_cons (pv 8) pa_nil)) (pa_cons (pe_c c__law_bad hr (by omega) (by rfl) (pa_cons pe_str (pa_cons (pe_lst pa_nil) pa_nil))) pa_nil)))))))))))))), ?_⟩
    have szl := sizeLine_eq
    have T0 : Tabs T2 H := fun p hp => TabS.nil (tb1 p hp)
    refine seq_cut (fun σ' H' => ∃ b, σ' = [some (.ref a), some (.ref b), none, none, none, none, none, none, none] ∧ Bag H' b ∧ Tabs T2 H') (fun D' hrt hn => ?_) ?_
    · simp only [L2.start, cxOf, tRet, tAndV, tOrV, tNotV, tCB, tCons, tNil, tVar, tC, tOp, tUn, tTest, tB, tIf, tIfS, tSeq, tAsg, tAnd, tOr, tNot, gName, tNext, tCall, tChain, rI, rI0, rEq, rNe, rGcd, rU, tM1, tM0, tSl, tPart, tNoPart, gTup, gCons, gNil, gSub, tTup, tLst, tPar, L2.rI, List.map_cons, List.map_nil, List.length_cons, List.length_nil, List.cons_append, List.nil_append, List.append_nil, List.getElem?_cons_zero, List.getElem?_cons_succ, List.set_cons_zero, List.set_cons_succ, Option.some.injEq, exists_eq_left, exists_eq_left', exists_eq_right, exists_and_left, exists_and_right, List.cons.injEq, and_true, true_and, V.int.injEq, V.str.injEq, V.bl.injEq, V.ref.injEq, List.replicate, Nat.reduceAdd, Nat.reduceSub, reduceCtorEq, false_and, and_false, if_true, if_false, Bool.false_eq_true, Bool.not_true, Bool.not_false, decide_eq_true_eq, exists_false, or_false, false_or]
      exact ⟨a, ns, rfl, sq, fun H1 b s1 hb bag => hn _ _ ⟨b, rfl, bag, fun p hp => (T0 p hp).ext s1⟩⟩
    rintro σ' H1 ⟨b, rfl, bag, T1⟩
    refine seq_cut (fun σ' H' => ∃ nl ws, σ' = [some (.ref a), some (.ref b), some (.ref nl), none, none, none, none, none, none] ∧ Bag H' b ∧ Tabs T2 H' ∧ H' nl = some (wordsV ws) ∧ nl ≠ b ∧ 0 < ws.length ∧ ws.length ≤ 25 ∧ ws.Nodup ∧ ∀ u ∈ ws, nameB u = true) (fun D' hrt hn => ?_) ?_
    · simp only [L2.start, cxOf, tRet, tAndV, tOrV, tNotV, tCB, tCons, tNil, tVar, tC, tOp, tUn, tTest, tB, tIf, tIfS, tSeq, tAsg, tAnd, tOr, tNot, gName, tNext, tCall, tChain, rI, rI0, rEq, rNe, rGcd, rU, tM1, tM0, tSl, tPart, tNoPart, gTup, gCons, gNil, gSub, tTup, tLst, tPar, L2.rI, List.map_cons, List.map_nil, List.length_cons, List.length_nil, List.cons_append, List.nil_append, List.append_nil, List.getElem?_cons_zero, List.getElem?_cons_succ, List.set_cons_zero, List.set_cons_succ, Option.some.injEq, exists_eq_left, exists_eq_left', exists_eq_right, exists_and_left, exists_and_right, List.cons.injEq, and_true, true_and, V.int.injEq, V.str.injEq, V.bl.injEq, V.ref.injEq, List.replicate, Nat.reduceAdd, Nat.reduceSub, reduceCtorEq, false_and, and_false, if_true, if_false, Bool.false_eq_true, Bool.not_true, Bool.not_false, decide_eq_true_eq, exists_false, or_false, false_or]
      refine ⟨small (by decide), fun p hp => pick_new bag hp (by simp) (by simp) fun H2 z x2 hz => ?_⟩
      obtain ⟨n, rfl, n1, n2⟩ := z_many hz
      refine ⟨small (by decide), fun t ht => ?_⟩
      have bag2 := x2.bag
      have T2' := tabs_keep T1 x2 bag
      have T3 : Tabs T2 (upd H2 t (.lst [])) := fun p hp => (T2' p hp).ext (same_new ht)
      exact ⟨b, t, n, [], rfl, (bag_new bag2 ht).2, upd_same, new_ne bag2 ht, by omega, by simp, fun H3 l ws x3 nl hl lw nd good => hn _ _ ⟨l, ws, rfl, x3.bag, tabs_keep T3 x3 (bag_new bag2 ht).2, hl, new_ne (bag_new bag2 ht).2 nl, by omega, by omega, nd, fun u hu => (good u hu).1⟩⟩
    rintro σ' H2 ⟨nl, ws, rfl, bag2, tb2, hnl, nb, p0, p1, nd, good⟩
    have ok8 : ∀ u ∈ ws, u.length ≤ 8 := fun u hu => name_len (good u hu)
    have lenN : ∀ {G : Hp}, G nl = some (wordsV ws) → LenV K (.ref nl) G ws.length := fun h => by
      have := len_L (K := K) (SqL.of h)
      rwa [List.length_map] at this
    refine seq_cut (fun σ' H' => ∃ ld, σ' = [some (.ref a), some (.ref b), some (.ref nl), some (.ref ld), none, none, none, none, none] ∧ Same H2 H' ∧ LandAt H' ld ws) (fun D' hrt hn => ?_) ?_
    · simp only [L2.start, cxOf, tRet, tAndV, tOrV, tNotV, tCB, tCons, tNil, tVar, tC, tOp, tUn, tTest, tB, tIf, tIfS, tSeq, tAsg, tAnd, tOr, tNot, gName, tNext, tCall, tChain, rI, rI0, rEq, rNe, rGcd, rU, tM1, tM0, tSl, tPart, tNoPart, gTup, gCons, gNil, gSub, tTup, tLst, tPar, L2.rI, List.map_cons, List.map_nil, List.length_cons, List.length_nil, List.cons_append, List.nil_append, List.append_nil, List.getElem?_cons_zero, List.getElem?_cons_succ, List.set_cons_zero, List.set_cons_succ, Option.some.injEq, exists_eq_left, exists_eq_left', exists_eq_right, exists_and_left, exists_and_right, List.cons.injEq, and_true, true_and, V.int.injEq, V.str.injEq, V.bl.injEq, V.ref.injEq, List.replicate, Nat.reduceAdd, Nat.reduceSub, reduceCtorEq, false_and, and_false, if_true, if_false, Bool.false_eq_true, Bool.not_true, Bool.not_false, decide_eq_true_eq, exists_false, or_false, false_or]
      exact ⟨nl, ws, rfl, hnl, by omega, fun H3 ld s3 n3 h3 => hn _ _ ⟨ld, rfl, s3, h3⟩⟩
    rintro σ' H3 ⟨ld, rfl, s3, land3⟩
    have g3 : Go T2 b H2 H3 := (Go.rf bag2 tb2).sm s3
    refine seq_cut (fun σ' H' => ∃ v t, σ' = [some (.ref a), some (.ref b), some (.ref nl), some (.ref ld), some v, none, none, none, none] ∧ Ex b H3 H' ∧ TabAt (fun _ => True) H' (P20.rows t) v ∧ (P20.leaves t.er).Perm ws) (fun D' hrt hn => ?_) ?_
    · simp only [L2.start, cxOf, tRet, tAndV, tOrV, tNotV, tCB, tCons, tNil, tVar, tC, tOp, tUn, tTest, tB, tIf, tIfS, tSeq, tAsg, tAnd, tOr, tNot, gName, tNext, tCall, tChain, rI, rI0, rEq, rNe, rGcd, rU, tM1, tM0, tSl, tPart, tNoPart, gTup, gCons, gNil, gSub, tTup, tLst, tPar, L2.rI, List.map_cons, List.map_nil, List.length_cons, List.length_nil, List.cons_append, List.nil_append, List.append_nil, List.getElem?_cons_zero, List.getElem?_cons_succ, List.set_cons_zero, List.set_cons_succ, Option.some.injEq, exists_eq_left, exists_eq_left', exists_eq_right, exists_and_left, exists_and_right, List.cons.injEq, and_true, true_and, V.int.injEq, V.str.injEq, V.bl.injEq, V.ref.injEq, List.replicate, Nat.reduceAdd, Nat.reduceSub, reduceCtorEq, false_and, and_false, if_true, if_false, Bool.false_eq_true, Bool.not_true, Bool.not_false, decide_eq_true_eq, exists_false, or_false, false_or, tLstRg, tRg1]
      refine ⟨_, lenN (s3 _ _ hnl), RgOk.of_le (by omega) (by omega) (by omega) (by omega), fun l hl => ?_⟩
      rw [rgV_pl]
      have s4 := same_new (o := .lst (plV (List.range ws.length))) hl
      refine ⟨b, ld, l, ws, List.range ws.length, rfl, g3.bag.same s4, land3.same s4, upd_same, new_ne g3.bag hl, by rw [List.length_range]; omega, by rw [List.length_range]; omega, by rw [List.length_range]; omega, fun p hp => List.mem_range.mp hp, ok8, fun H4 v t x4 e4 lab tab => ?_⟩
      exact hn _ _ ⟨v, t, rfl, ((Ex.rf g3.bag).sm s4).tr x4, tab, lab_perm lab e4 (List.Perm.refl _)⟩
    rintro σ' H4 ⟨v, t, rfl, x4, tab4, pm4⟩
    have g4 := g3.ex x4
    have lt4 := pm4.length_eq
    have goodT : P20.Good nameB t.er := good_of fun u hu => good u (pm4.mem_iff.mp hu)
    have ndT : (P20.leaves t.er).Nodup := pm4.nodup_iff.mpr nd
    have tkl := P20.toks_len t.er
    have spl := P20.spell_len (k := 8) fun u hu => name_len (goodT u hu).1
    have tks := toks_small fun u hu => (goodT u hu).1
    refine seq_cut (fun σ' H' => ∃ tl, σ' = [some (.ref a), some (.ref b), some (.ref nl), some (.ref ld), some v, some (.ref tl), none, none, none] ∧ Lw T2 b nl ld tl v t ws H') (fun D' hrt hn => ?_) ?_
    · simp only [L2.start, cxOf, tRet, tAndV, tOrV, tNotV, tCB, tCons, tNil, tVar, tC, tOp, tUn, tTest, tB, tIf, tIfS, tSeq, tAsg, tAnd, tOr, tNot, gName, tNext, tCall, tChain, rI, rI0, rEq, rNe, rGcd, rU, tM1, tM0, tSl, tPart, tNoPart, gTup, gCons, gNil, gSub, tTup, tLst, tPar, L2.rI, List.map_cons, List.map_nil, List.length_cons, List.length_nil, List.cons_append, List.nil_append, List.append_nil, List.getElem?_cons_zero, List.getElem?_cons_succ, List.set_cons_zero, List.set_cons_succ, Option.some.injEq, exists_eq_left, exists_eq_left', exists_eq_right, exists_and_left, exists_and_right, List.cons.injEq, and_true, true_and, V.int.injEq, V.str.injEq, V.bl.injEq, V.ref.injEq, List.replicate, Nat.reduceAdd, Nat.reduceSub, reduceCtorEq, false_and, and_false, if_true, if_false, Bool.false_eq_true, Bool.not_true, Bool.not_false, decide_eq_true_eq, exists_false, or_false, false_or]
      refine tab_last tab4 ⟨_, rfl, by omega, fun H5 tl s5 n5 h5 => ?_⟩
      rw [P20.words_spell goodT.ok] at h5
      have g5 := g4.sm s5
      exact hn _ _ ⟨tl, rfl, g5.bag, g5.tabs, g5.keep _ _ nb hnl (fun _ z => by cases z), nb, (land3.gt g3.bag ((Go.rf g3.bag g3.tabs).ex x4).keep).same s5, tab4.same s5, h5, new_ne g4.bag n5⟩
    rintro σ' H5 ⟨tl, rfl, st5⟩
    refine seq_cut (fun σ' H' => σ' = [some (.ref a), some (.ref b), some (.ref nl), some (.ref ld), some v, some (.ref tl), none, none, none] ∧ Lw T2 b nl ld tl v t ws H') (fun D' hrt hn => ?_) ?_
    · simp only [L2.start, cxOf, tRet, tAndV, tOrV, tNotV, tCB, tCons, tNil, tVar, tC, tOp, tUn, tTest, tB, tSeq, tAsg, tNot, gName, tNext, tCall, tChain, rI, rI0, rEq, rNe, rGcd, rU, tM1, tM0, tSl, tPart, tNoPart, gTup, gCons, gNil, gSub, tTup, tLst, tPar, L2.rI, List.map_cons, List.map_nil, List.length_cons, List.length_nil, List.cons_append, List.nil_append, List.append_nil, List.getElem?_cons_zero, List.getElem?_cons_succ, List.set_cons_zero, List.set_cons_succ, Option.some.injEq, exists_eq_left, exists_eq_left', exists_eq_right, exists_and_left, exists_and_right, List.cons.injEq, and_true, true_and, V.int.injEq, V.str.injEq, V.bl.injEq, V.ref.injEq, List.replicate, Nat.reduceAdd, Nat.reduceSub, reduceCtorEq, false_and, and_false, if_true, if_false, Bool.false_eq_true, Bool.not_true, Bool.not_false, decide_eq_true_eq, exists_false, or_false, false_or, tIfS]
      refine ⟨b, tl, _, rfl, st5.bag, st5.htl, st5.tlb, by omega, fun u hu => ⟨(tks u hu).1, by have := (tks u hu).2; omega⟩, fun H6 x x6 ex lx => ?_⟩
      have st6 := st5.ex x6
      refine ⟨b, x, rfl, st6.bag, st6.tabs, lx, by rw [ex]; omega, fun u hu => ?_, fun H7 g7 => ⟨true, rfl, ?_⟩⟩
      · rw [ex] at hu
        have := (tks u hu).2
        omega
      · rw [if_neg (by decide)]
        exact hn _ _ ⟨rfl, st6.go g7⟩
    rintro σ' H6 ⟨rfl, st6⟩
    refine seq_cut (fun σ' H' => ∃ y6, σ' = [some (.ref a), some (.ref b), some (.ref nl), some (.ref ld), some v, some (.ref tl), y6, none, none] ∧ Lw T2 b nl ld tl v t ws H') (fun D' hrt hn => ?_) ?_
    · refine for_range_at (n := 4) (H1 := H6) (by decide) (fun R k => ?_) ⟨fun i σ' H' => ∃ y6, σ' = [some (.ref a), some (.ref b), some (.ref nl), some (.ref ld), some v, some (.ref tl), y6, none, none] ∧ Lw T2 b nl ld tl v t ws H', ⟨none, rfl, st6⟩, ?_, ?_⟩
      · exact k
      · rintro i σ' H' hi ⟨y6, rfl, st⟩
        simp only [L2.start, cxOf, tRet, tAndV, tOrV, tNotV, tCB, tCons, tNil, tVar, tC, tOp, tUn, tTest, tB, tIf, tIfS, tSeq, tAsg, tAnd, tOr, tNot, gName, tNext, tCall, tChain, rI, rI0, rEq, rNe, rGcd, rU, tM1, tM0, tSl, tPart, tNoPart, gTup, gCons, gNil, gSub, tTup, tLst, tPar, L2.rI, List.map_cons, List.map_nil, List.length_cons, List.length_nil, List.cons_append, List.nil_append, List.append_nil, List.getElem?_cons_zero, List.getElem?_cons_succ, List.set_cons_zero, List.set_cons_succ, Option.some.injEq, exists_eq_left, exists_eq_left', exists_eq_right, exists_and_left, exists_and_right, List.cons.injEq, and_true, true_and, V.int.injEq, V.str.injEq, V.bl.injEq, V.ref.injEq, List.replicate, Nat.reduceAdd, Nat.reduceSub, reduceCtorEq, false_and, and_false, if_true, if_false, Bool.false_eq_true, Bool.not_true, Bool.not_false, decide_eq_true_eq, exists_false, or_false, false_or, tIfS]
        refine ⟨b, tl, nl, _, ws, rfl, st.bag, st.htl, st.tlb, st.hn, nb, p0, by omega, by omega, fun u hu => ⟨(tks u hu).1, by have := (tks u hu).2; omega⟩, fun u hu => ⟨.inr (name_of (good u hu)), by have := ok8 u hu; omega⟩, fun H7 l us x7 lb7 hl7 lu gu => ?_⟩
        have st7 := st.ex x7
        refine ⟨b, l, us, rfl, st7.bag, hl7, lb7, by omega, fun u hu => gu u hu, fun H8 x x8 ex lx => ?_⟩
        have st8 := st7.ex x8
        refine ⟨b, x, rfl, st8.bag, st8.tabs, lx, by rw [ex]; omega, fun u hu => ?_, fun H9 g9 => ⟨true, rfl, ?_⟩⟩
        · rw [ex] at hu
          exact (gu u hu).2
        · rw [if_neg (by decide)]
          exact st8.go g9
      · rintro σ' H' ⟨y6, rfl, st⟩
        exact hn _ _ ⟨y6, rfl, st⟩
    rintro σ' H7 ⟨y6, rfl, st7⟩
    refine seq_cut (fun σ' H' => ∃ y7, σ' = [some (.ref a), some (.ref b), some (.ref nl), some (.ref ld), some v, some (.ref tl), y6, y7, none] ∧ Lw T2 b nl ld tl v t ws H') (fun D' hrt hn => ?_) ?_
    · simp only [L2.start, cxOf, tRet, tAndV, tOrV, tNotV, tCB, tCons, tNil, tVar, tC, tOp, tUn, tTest, tB, tSeq, tAsg, tNot, gName, tNext, tCall, tChain, rI, rI0, rEq, rNe, rGcd, rU, tM1, tM0, tSl, tPart, tNoPart, gTup, gCons, gNil, gSub, tTup, tLst, tPar, L2.rI, List.map_cons, List.map_nil, List.length_cons, List.length_nil, List.cons_append, List.nil_append, List.append_nil, List.getElem?_cons_zero, List.getElem?_cons_succ, List.set_cons_zero, List.set_cons_succ, Option.some.injEq, exists_eq_left, exists_eq_left', exists_eq_right, exists_and_left, exists_and_right, List.cons.injEq, and_true, true_and, V.int.injEq, V.str.injEq, V.bl.injEq, V.ref.injEq, List.replicate, Nat.reduceAdd, Nat.reduceSub, reduceCtorEq, false_and, and_false, if_true, if_false, Bool.false_eq_true, Bool.not_true, Bool.not_false, decide_eq_true_eq, exists_false, or_false, false_or, tIfS]
      refine ⟨_, lenN st7.hn, ?_⟩
      by_cases few : (ws.length : Int) < 25
      · rw [if_pos few]
        simp only [tLstRg, tRg1, tMakeS, L2.start, cxOf, tRet, tAndV, tOrV, tNotV, tCB, tCons, tNil, tVar, tC, tOp, tUn, tTest, tB, tSeq, tAsg, tNot, gName, tNext, tCall, tChain, rI, rI0, rEq, rNe, rGcd, rU, tM1, tM0, tSl, tPart, tNoPart, gTup, gCons, gNil, gSub, tTup, tLst, tPar, L2.rI, List.map_cons, List.map_nil, List.length_cons, List.length_nil, List.cons_append, List.nil_append, List.append_nil, List.getElem?_cons_zero, List.getElem?_cons_succ, List.set_cons_zero, List.set_cons_succ, Option.some.injEq, exists_eq_left, exists_eq_left', exists_eq_right, exists_and_left, exists_and_right, List.cons.injEq, and_true, true_and, V.int.injEq, V.str.injEq, V.bl.injEq, V.ref.injEq, List.replicate, Nat.reduceAdd, Nat.reduceSub, reduceCtorEq, false_and, and_false, if_true, if_false, Bool.false_eq_true, Bool.not_true, Bool.not_false, decide_eq_true_eq, exists_false, or_false, false_or, tIfS]
        refine ⟨_, lenN st7.hn, RgOk.of_le (by omega) (by omega) (by omega) (by omega), fun l hl => ?_⟩
        rw [rgV_pl]
        have st8a := st7.sm (same_new (o := .lst (plV (List.range ws.length))) hl)
        refine ⟨b, l, _, rfl, st8a.bag, upd_same, new_ne st7.bag hl, by rw [List.length_map, List.length_range]; omega, fun H9 l2 ys x9 nl9 hl9 pm9 => ?_⟩
        obtain ⟨qs, rfl, pmq⟩ := perm_pl pm9
        have st9 := st8a.ex x9
        have lq := pmq.length_eq
        rw [List.length_range] at lq
        refine ⟨b, ld, l2, ws, qs, rfl, st9.bag, st9.land, hl9, new_ne st8a.bag nl9, by omega, by omega, by omega, fun p hp => List.mem_range.mp (pmq.mem_iff.mp hp), ok8, fun H8 u s' x10 e10 lab tabU => ?_⟩
        have st8 := st9.ex x10
        have pmU := lab_perm lab e10 pmq
        have goodU : P20.Good nameB s'.er := good_of fun u hu => good u (pmU.mem_iff.mp hu)
        have ndU : (P20.leaves s'.er).Nodup := pmU.nodup_iff.mpr nd
        have splU := P20.spell_len (k := 8) fun u hu => name_len (goodU u hu).1
        have ltU := pmU.length_eq
        refine tab_last st8.tab (mk_tree (P20.words_spell goodT.ok) (by omega) goodT ndT (by omega) fun H9 x s9 nx trX => ?_)
        refine tab_last (tabU.same s9) (mk_tree (P20.words_spell goodU.ok) (by omega) goodU ndU (by omega) fun H10 y s10 ny trY => ?_)
        have trX2 := trX.same s10
        obtain ⟨dx, lv9, nd9, d9, lo9, ab9, hx, _⟩ := id trX2
        obtain ⟨dx2, lv8, nd8, d8, lo8, ab8, hx2, _⟩ := id trY
        have nfO : PySem.W.notFirst K (cT K) (.ref (cT K)) = true := by simp [PySem.W.notFirst]
        have tyO : TyX K H10 (.ref y) (.ref (cT K)) := .base (.ins hx2 tc.cls ti.cl ti.hn ti.tk ti.mo)
        refine ⟨x, _, _, _, rfl, hx, tyO, nfO, x, _, t.er, rfl, trX2, .inl ⟨y, s'.er, rfl, trY, _, rfl, ?_⟩⟩
        have st10 := st8.sm (s9.trans s10)
        refine tab_last st10.tab (tab_last (tabU.same (s9.trans s10)) ?_)
        refine ⟨rfl, _, _, rfl, ?_, fun H' s' => ⟨true, rfl, ?_⟩⟩
        · have e : decide (P20.spell t.er = P20.spell s'.er) = decide (V.str (S (P20.spell t.er)) = V.str (S (P20.spell s'.er))) := by
            rw [Bool.eq_iff_iff, decide_eq_true_eq, decide_eq_true_eq]
            exact ⟨fun z => by rw [z], fun z => SX.S_inj (V.str.inj z)⟩
          rw [e]
          exact lk_bl
        · rw [if_neg (by decide)]
          exact hn _ _ ⟨_, rfl, st10.sm s'⟩
      · rw [if_neg few]
        exact hn _ _ ⟨none, rfl, st7⟩
    rintro σ' H8 ⟨y7, rfl, st8⟩
    refine seq_cut (fun σ' H' => σ' = [some (.ref a), some (.ref b), some (.ref nl), some (.ref ld), some v, some (.ref tl), y6, y7, none] ∧ Lw T2 b nl ld tl v t ws H') (fun D' hrt hn => ?_) ?_
    · simp only [L2.start, cxOf, tRet, tAndV, tOrV, tNotV, tCB, tCons, tNil, tVar, tC, tOp, tUn, tTest, tB, tSeq, tAsg, tNot, gName, tNext, tCall, tChain, rI, rI0, rEq, rNe, rGcd, rU, tM1, tM0, tSl, tPart, tNoPart, gTup, gCons, gNil, gSub, tTup, tLst, tPar, L2.rI, List.map_cons, List.map_nil, List.length_cons, List.length_nil, List.cons_append, List.nil_append, List.append_nil, List.getElem?_cons_zero, List.getElem?_cons_succ, List.set_cons_zero, List.set_cons_succ, Option.some.injEq, exists_eq_left, exists_eq_left', exists_eq_right, exists_and_left, exists_and_right, List.cons.injEq, and_true, true_and, V.int.injEq, V.str.injEq, V.bl.injEq, V.ref.injEq, List.replicate, Nat.reduceAdd, Nat.reduceSub, reduceCtorEq, false_and, and_false, if_true, if_false, Bool.false_eq_true, Bool.not_true, Bool.not_false, decide_eq_true_eq, exists_false, or_false, false_or, tIfS]
      refine ⟨b, nl, ws, rfl, st8.bag, st8.tabs, st8.hn, nb, p0, p1, good, nd, fun H9 g9 => ⟨true, rfl, ?_⟩⟩
      rw [if_neg (by decide)]
      exact hn _ _ ⟨rfl, st8.go g9⟩
    rintro σ' H9 ⟨rfl, st9⟩
    refine seq_cut (fun σ' H' => ∃ x : List Nat, σ' = [some (.ref a), some (.ref b), some (.ref nl), some (.ref ld), some v, some (.ref tl), y6, y7, some (.str (S x))] ∧ Lw T2 b nl ld tl v t ws H' ∧ x.length ≤ 3000 ∧ P20.readOf nameB (P20.words x) = none) (fun D' hrt hn => ?_) ?_
    · simp only [L2.start, cxOf, tRet, tAndV, tOrV, tNotV, tCB, tCons, tNil, tVar, tC, tOp, tUn, tTest, tB, tIf, tIfS, tSeq, tAsg, tAnd, tOr, tNot, gName, tNext, tCall, tChain, rI, rI0, rEq, rNe, rGcd, rU, tM1, tM0, tSl, tPart, tNoPart, gTup, gCons, gNil, gSub, tTup, tLst, tPar, L2.rI, List.map_cons, List.map_nil, List.length_cons, List.length_nil, List.cons_append, List.nil_append, List.append_nil, List.getElem?_cons_zero, List.getElem?_cons_succ, List.set_cons_zero, List.set_cons_succ, Option.some.injEq, exists_eq_left, exists_eq_left', exists_eq_right, exists_and_left, exists_and_right, List.cons.injEq, and_true, true_and, V.int.injEq, V.str.injEq, V.bl.injEq, V.ref.injEq, List.replicate, Nat.reduceAdd, Nat.reduceSub, reduceCtorEq, false_and, and_false, if_true, if_false, Bool.false_eq_true, Bool.not_true, Bool.not_false, decide_eq_true_eq, exists_false, or_false, false_or]
      have c40 : (Str.ofString "(") = S [40] := by decide +kernel
      have c41 : (Str.ofString ")") = S [41] := by decide +kernel
      have cb : (Str.ofString " b)") = S [32, 98, 41] := by decide +kernel
      have c0 : (Str.ofString "") = S [] := by decide +kernel
      obtain ⟨w0, r0, en⟩ : ∃ w0 r0, ws = w0 :: r0 := by
        cases ws with
        | nil => exact absurd p0 (by decide)
        | cons w0 r0 => exact ⟨w0, r0, rfl⟩
      have l0 := ok8 w0 (by rw [en]; exact List.mem_cons_self)
      rw [c40, c41, cb, c0]
      refine ⟨40, 1200, rfl, rfl, by decide, by decide, ixL (SqL.of st9.hn) 0 (by rw [en]; rfl) ⟨_, rfl, _, rfl, ?_, ?_⟩⟩
      · rw [S_len, S_len, List.length_replicate, szl]
        omega
      refine ⟨41, 1200, rfl, rfl, by decide, by decide, [32, 98, 41], 3, rfl, rfl, by decide, by decide, by decide, by decide, small (by decide), fun p hp => pick_new st9.bag hp (by simp) (by simp) fun H10 z x10 hz => ?_⟩
      have key : ∃ y : List Nat, z = .str (S y) ∧ y.length ≤ 1200 ∧ y.countP P20.sg ≤ 3 := by
        simp only [List.mem_cons, List.not_mem_nil, or_false] at hz
        rcases hz with rfl | rfl | rfl
        · exact ⟨[], rfl, by decide, by decide⟩
        · refine ⟨_, rfl, by rw [List.length_replicate]; omega, ?_⟩
          rw [List.countP_replicate, if_neg (by decide)]
          omega
        · exact ⟨_, rfl, by decide, by decide⟩
      obtain ⟨y, rfl, ly, sy⟩ := key
      refine ⟨_, rfl, ?_, hn _ _ ⟨List.replicate 1200 40 ++ w0 ++ y, ?_, st9.ex x10, ?_, ?_⟩⟩
      · rw [S_cat, S_len, S_len, List.length_append, List.length_replicate, szl]
        omega
      · rw [S_cat, S_cat]
      · rw [List.length_append, List.length_append, List.length_replicate]
        omega
      · refine P20.deep_none (fun w h => name_of h) ?_
        rw [List.countP_append, List.countP_append, List.count_append, List.count_append, List.count_replicate_self, List.countP_replicate, if_neg (by decide)]
        have := List.countP_le_length (p := P20.sg) (l := w0)
        omega
    rintro σ' H10 ⟨x, rfl, st10, lx, rn⟩
    simp only [L2.start, cxOf, tRet, tAndV, tOrV, tNotV, tCB, tCons, tNil, tVar, tC, tOp, tUn, tTest, tB, tSeq, tAsg, tNot, gName, tNext, tCall, tChain, rI, rI0, rEq, rNe, rGcd, rU, tM1, tM0, tSl, tPart, tNoPart, gTup, gCons, gNil, gSub, tTup, tLst, tPar, L2.rI, List.map_cons, List.map_nil, List.length_cons, List.length_nil, List.cons_append, List.nil_append, List.append_nil, List.getElem?_cons_zero, List.getElem?_cons_succ, List.set_cons_zero, List.set_cons_succ, Option.some.injEq, exists_eq_left, exists_eq_left', exists_eq_right, exists_and_left, exists_and_right, List.cons.injEq, and_true, true_and, V.int.injEq, V.str.injEq, V.bl.injEq, V.ref.injEq, List.replicate, Nat.reduceAdd, Nat.reduceSub, reduceCtorEq, false_and, and_false, if_true, if_false, Bool.false_eq_true, Bool.not_true, Bool.not_false, decide_eq_true_eq, exists_false, or_false, false_or]
    refine ref_bad st10.bag st10.tabs (fun H' Q' E' g er => ?_) fun H' g => q _
    simp only [tMakeS, WE, L2.start, cxOf, tRet, tAndV, tOrV, tNotV, tCB, tCons, tNil, tVar, tC, tOp, tUn, tTest, tB, tIf, tIfS, tSeq, tAsg, tAnd, tOr, tNot, gName, tNext, tCall, tChain, rI, rI0, rEq, rNe, rGcd, rU, tM1, tM0, tSl, tPart, tNoPart, gTup, gCons, gNil, gSub, tTup, tLst, tPar, L2.rI, List.map_cons, List.map_nil, List.length_cons, List.length_nil, List.cons_append, List.nil_append, List.append_nil, List.getElem?_cons_zero, List.getElem?_cons_succ, List.set_cons_zero, List.set_cons_succ, Option.some.injEq, exists_eq_left, exists_eq_left', exists_eq_right, exists_and_left, exists_and_right, List.cons.injEq, and_true, true_and, V.int.injEq, V.str.injEq, V.bl.injEq, V.ref.injEq, List.replicate, Nat.reduceAdd, Nat.reduceSub, reduceCtorEq, false_and, and_false, if_true, if_false, Bool.false_eq_true, Bool.not_true, Bool.not_false, decide_eq_true_eq, exists_false, or_false, false_or]
    refine fun y dy hy hdy ney => mk_bad (P20.read_none rn) (by omega) (by have := P20.words_len x; omega) (fun u hu => by have := P20.words_each hu; omega) ?_ y dy hy hdy ney
    exact fun G d s5 n5 e5 => er _ (by decide +kernel) (by decide +kernel) G d s5 n5 e5
end
end W20

set_option Elab.async false
set_option linter.all false
set_option maxRecDepth 100000
set_option maxHeartbeats 4000000
/-! KK20: the written part's facts -/
namespace W20
open PySem PySem.Spec PyProof.Rows L2 Lay LamX
open C8 (Cal Mak)
theorem oexG_ok {K : PySem.W.Frag} {C : Addr} {n : String} {tail : List Value} (h : oexG K C n tail = true) : ∃ nm q N bs sn sub ab col dd k0 k1 k2 k3 k5, K.lookup C = some (excClassObj nm q C N bs tail true sn sub ab col dd k0 k1 k2 k3 k5 n) := by
  unfold oexG at h
  split at h
  · rename_i t dd cd sl e
    split at h
    · rename_i C' bm k0 k1 k2 k3 n' k5 e1 e2
      obtain ⟨h1, h⟩ := He.ba h
      obtain ⟨h2, h⟩ := He.ba h
      obtain ⟨h3, h⟩ := He.ba h
      obtain ⟨h4, h⟩ := He.ba h
      obtain ⟨h5, h6⟩ := He.ba h
      obtain rfl := of_decide_eq_true h1
      obtain rfl := of_decide_eq_true h2
      obtain rfl := of_decide_eq_true h3
      obtain rfl := of_decide_eq_true h6
      obtain ⟨nm, bs, mro, ns, qn, hd, sn, sub, ab, col, hdel⟩ := cd
      have e1 : mro = .ref C' :: bm := e1
      have h4 : (!hdel) = true := h4
      have h5 : hd = true := h5
      obtain rfl : hdel = false := by
        cases hdel with
        | false => rfl
        | true => cases h4
      subst e1 h5
      have e3 : sl = #[k0, k1, k2, k3, some (.builtin n'), k5] := by
        apply Array.ext'
        exact e2
      exact ⟨nm, qn, ns, bs, sn, sub, ab, col, dd, k0, k1, k2, k3, k5, by rw [e, e3]⟩
    · cases h
  · cases h
/-- what excB says -/
structure ExcP (K : PySem.W.Frag) (x : Str) (base n : String) (f : Str) : Prop where
  ox : oexG K (He.ga K x) n [.type base, .type "Exception", .type "BaseException", .type "object"] = true
  xf : XfC K (He.ga K x)
  noF : PySem.W.findIn K (.ref (He.ga K x)) f = some none
  sa : PySem.W.findIn K (.ref (He.ga K x)) "__setattr__" = some (some (.builtin "object.__setattr__"))
  ty : PySem.W.typeIn K (.ref (He.ga K x)) = some (.type "type")
  init : PySem.W.findIn K (.ref (He.ga K x)) "__init__" = some (some (.ref (He.fAd K (x, some "__init__"))))
  initT : PySem.W.typeIn K (.ref (He.fAd K (x, some "__init__"))) = some (.type "function")
  cl : PySem.W.findIn K (.ref (He.ga K x)) "__class__" = some (some (.builtin "object.__class__"))
  mo : PySem.W.mroIn K (He.ga K x) (.type "object") = some true
  own : ∀ y ∈ excs, PySem.W.exmOne K (.ref (He.ga K x)) (.ref (He.ga K y)) = some (decide (y = x)) ∧ PySem.W.kitOne K (.ref (He.ga K x)) (.ref (He.ga K y)) = some (decide (y = x))
  blt : ∀ y ∈ (["ValueError", "LookupError", "RuntimeError"] : List String), PySem.W.kitOne K (.ref (He.ga K x)) (.type y) = some (decide (y = base))
theorem excB_ok {K : PySem.W.Frag} {x : Str} {base n : String} {f : Str} (h : excB K x base n f = true) : ExcP K x base n f := by
  unfold excB at h
  obtain ⟨h1, h⟩ := He.ba h
  obtain ⟨h2, h⟩ := He.ba h
  obtain ⟨h3, h⟩ := He.ba h
  obtain ⟨h4, h⟩ := He.ba h
  obtain ⟨h5, h⟩ := He.ba h
  obtain ⟨h6, h⟩ := He.ba h
  obtain ⟨h7, h⟩ := He.ba h
  obtain ⟨h8, h⟩ := He.ba h
  obtain ⟨h9, h⟩ := He.ba h
  obtain ⟨h10, h11⟩ := He.ba h
  refine ⟨h1, xfB_ok h2, of_decide_eq_true h3, of_decide_eq_true h4, of_decide_eq_true h5, of_decide_eq_true h6, of_decide_eq_true h7, of_decide_eq_true h8, of_decide_eq_true h9, fun y hy => ?_, fun y hy => of_decide_eq_true (List.all_eq_true.mp h11 y hy)⟩
  obtain ⟨a, b⟩ := He.ba (List.all_eq_true.mp h10 y hy)
  exact ⟨of_decide_eq_true a, of_decide_eq_true b⟩
theorem vals_strs : ∀ {us : List Value} {ys : List Str}, us.map (fun v => match v with | .str y _ => some y | _ => none) = ys.map some → Vals (ys.map V.str) us
  | [], [], _ => .nil
  | u :: us, y :: ys, h => by
    rw [List.map_cons, List.map_cons, List.cons.injEq] at h
    refine .cons ?_ (vals_strs h.2)
    have h1 := h.1
    cases u with
    | str z t =>
      have e : some z = some y := h1
      cases e
      exact ⟨t, rfl⟩
    | _ => cases h1
theorem tupS_ok {K : PySem.W.Frag} {x : Str} {ys : List Str} (h : tupB K x ys = true) (hl : ys.length ≤ 1000) (H : Hp) : SqT K H (He.ga K x) (ys.map V.str) := by
  unfold tupB at h
  split at h
  · rename_i t its n sl e
    obtain ⟨h1, h2⟩ := He.ba h
    obtain rfl := of_decide_eq_true h1
    have h2 := of_decide_eq_true h2
    have l := congrArg List.length h2
    rw [List.length_map, List.length_map] at l
    have szl := sizeLine_eq
    exact .inr ⟨_, its, n, e, rfl, rfl, by rw [← Array.length_toList, l]; omega, vals_strs h2⟩
  · cases h
theorem mem_at {f : He.Fa} (i : Nat) (h : fas[i]? = some f) : f ∈ fas := List.mem_of_getElem? h
section
variable {w : World} {K : PySem.W.Frag} {h : Heap} {mg : Str → Option Value}
/-- all that exB says -/
structure All (K : PySem.W.Frag) : Prop where
  nt : (tfs.map fun p => (He.cT K p).2).Nodup
  bt : ExcP K "BadTree" "ValueError" "ValueError.__new__" "why"
  ns : ExcP K "NoSuch" "LookupError" "LookupError.__new__" "name"
  tm : ExcP K "TooMany" "ValueError" "ValueError.__new__" "what"
  tb : PySem.W.findIn K (.ref (He.ga K "TooMany")) "bound" = some none
  sp : PySem.W.specialIn K (.builtin "object.__class__") "__get__" = some (some (.builtin "getset_descriptor.__get__"))
  tk : PySem.W.takesIn K (.builtin "object.__class__") = some true
  me : PySem.W.kitOne K (.ref (He.ga K "Tree")) (.ref (He.ga K "Tree")) = some true
  tc : PySem.W.findIn K (.ref (He.ga K "Tree")) "__class__" = some (some (.builtin "object.__class__"))
  to : PySem.W.mroIn K (He.ga K "Tree") (.type "object") = some true
  rr : tupB K "RESERVED" reserved = true
  dg : PySem.W.nsIn K cStatics "sys.int_max_str_digits" = some none
  ne : PySem.W.findIn K (.ref (He.ga K "Tree")) "__ne__" = some (some (.builtin "object.__ne__"))
  no : ∀ t ∈ (["str", "tuple", "int"] : List String), PySem.W.kitOne K (.type t) (.ref (He.ga K "Tree")) = some false ∧ PySem.W.notFirst K (He.ga K "Tree") (.type t) = true
theorem all_of (c : He.SaysX fas fns [] tfs exB w h K) : All K := by
  have m := c.more
  unfold exB at m
  obtain ⟨m0, m⟩ := He.ba m
  obtain ⟨m1, m⟩ := He.ba m
  obtain ⟨m2, m⟩ := He.ba m
  obtain ⟨m3, m⟩ := He.ba m
  obtain ⟨m4, m⟩ := He.ba m
  obtain ⟨m5, m⟩ := He.ba m
  obtain ⟨m6, m⟩ := He.ba m
  obtain ⟨m7, m⟩ := He.ba m
  obtain ⟨m8, m⟩ := He.ba m
  obtain ⟨m9, m⟩ := He.ba m
  obtain ⟨m10, m⟩ := He.ba m
  obtain ⟨m11, m⟩ := He.ba m
  obtain ⟨m12, m13⟩ := He.ba m
  refine ⟨of_decide_eq_true m0, excB_ok m1, excB_ok m2, excB_ok m3, of_decide_eq_true m4, of_decide_eq_true m5, of_decide_eq_true m6, of_decide_eq_true m7, of_decide_eq_true m8, of_decide_eq_true m9, m10, of_decide_eq_true m11, of_decide_eq_true m12, fun t ht => ?_⟩
  obtain ⟨a, b⟩ := He.ba (List.all_eq_true.mp m13 t ht)
  exact ⟨of_decide_eq_true a, b⟩
theorem rel_of (X : K.In h) (G : h.Ns mainGlobals mg) (c : He.SaysX fas fns [] tfs exB w h K) {x : Str} {base n : String} {f : Str} (p : ExcP K x base n f) (hx : x ∈ excs) : Rel K mg (He.ga K x) x base := by
  have A := all_of c
  have gl : ∀ y ∈ excs, mg y = some (.ref (He.ga K y)) := fun y hy => He.glo_ok X G (c.t.d.facts (List.mem_append_left _ (List.mem_append_left _ (List.mem_append_left _ (List.mem_append_right _ (List.mem_map_of_mem hy))))))
  refine ⟨p.xf, ⟨p.xf.ga, p.xf.gg, p.xf.exC, p.xf.hdC, p.cl, A.sp, A.tk, p.mo⟩, gl x hx, fun y hy => ⟨_, gl y hy, (p.own y hy).1, (p.own y hy).2⟩, fun y hy => ⟨He.free_ok X G (c.t.d.facts ?_), p.blt y hy⟩⟩
  simp only [List.mem_cons, List.not_mem_nil, or_false] at hy
  rcases hy with rfl | rfl | rfl
  · exact mem_at 66 rfl
  · exact mem_at 67 rfl
  · exact mem_at 68 rfl
theorem bad_of (X : K.In h) (G : h.Ns mainGlobals mg) (c : He.SaysX fas fns [] tfs exB w h K) : ∃ fdI, Bad K mg (He.ga K "BadTree") (He.fAd K ("BadTree", some "__init__")) fdI := by
  obtain ⟨fdI, FI⟩ := c.t.d.def_ 47 (d := metD "BadTree" "__init__" "BadTree.__init__" 2 0) rfl
  have p := (all_of c).bt
  obtain ⟨nm, q, N, bs, sn, sub, ab, col, dd, k0, k1, k2, k3, k5, e⟩ := oexG_ok p.ox
  exact ⟨fdI, { rel_of X G c p (by decide) with
    oex := ⟨⟨nm, q, N, bs, _, sn, sub, ab, col, dd, k0, k1, k2, k3, k5, e, by decide +kernel⟩, p.sa, p.xf.exC, p.ty, He.keep_ok (x := "BadTree") (c.t.d.facts (mem_at 83 rfl))⟩
    init := p.init
    initT := p.initT
    F := FI
    noF := p.noF }⟩
theorem nos_of (X : K.In h) (G : h.Ns mainGlobals mg) (c : He.SaysX fas fns [] tfs exB w h K) : ∃ fdI, NoS K mg (He.ga K "NoSuch") (He.fAd K ("NoSuch", some "__init__")) fdI := by
  obtain ⟨fdI, FI⟩ := c.t.d.def_ 48 (d := metD "NoSuch" "__init__" "NoSuch.__init__" 14 0) rfl
  have p := (all_of c).ns
  obtain ⟨nm, q, N, bs, sn, sub, ab, col, dd, k0, k1, k2, k3, k5, e⟩ := oexG_ok p.ox
  exact ⟨fdI, { rel_of X G c p (by decide) with
    oex := ⟨PySem.F.excBase_LookupError, ⟨nm, q, N, bs, sn, sub, ab, col, dd, k0, k1, k2, k3, k5, e⟩, PySem.F.store_LookupError.passes, by decide +kernel, p.sa, p.xf.exC, p.ty, He.keep_ok (x := "NoSuch") (c.t.d.facts (mem_at 84 rfl))⟩
    init := p.init
    initT := p.initT
    F := FI
    noF := p.noF }⟩
theorem many_of (X : K.In h) (G : h.Ns mainGlobals mg) (c : He.SaysX fas fns [] tfs exB w h K) : ∃ fdI, TooM K mg (He.ga K "TooMany") (He.fAd K ("TooMany", some "__init__")) fdI := by
  obtain ⟨fdI, FI⟩ := c.t.d.def_ 49 (d := metD "TooMany" "__init__" "TooMany.__init__" 13 0) rfl
  have p := (all_of c).tm
  obtain ⟨nm, q, N, bs, sn, sub, ab, col, dd, k0, k1, k2, k3, k5, e⟩ := oexG_ok p.ox
  exact ⟨fdI, { rel_of X G c p (by decide) with
    oex := ⟨⟨nm, q, N, bs, _, sn, sub, ab, col, dd, k0, k1, k2, k3, k5, e, by decide +kernel⟩, p.sa, p.xf.exC, p.ty, He.keep_ok (x := "TooMany") (c.t.d.facts (mem_at 85 rfl))⟩
    init := p.init
    initT := p.initT
    F := FI
    noF := p.noF
    noB := (all_of c).tb }⟩
theorem mg_of (X : K.In h) (G : h.Ns mainGlobals mg) (c : He.SaysX fas fns [] tfs exB w h K) : Mg K mg ∧ DigK K ∧ Tc K mg ∧ Ti K := by
  have A := all_of c
  have fr : ∀ x : Str, He.Fa.free x ∈ fas → mg x = none := fun x hx => He.free_ok X G (c.t.d.facts hx)
  have gl : ∀ x : Str, He.Fa.glo x ∈ fas → mg x = some (.ref (He.ga K x)) := fun x hx => He.glo_ok X G (c.t.d.facts hx)
  refine ⟨⟨fr _ (mem_at 54 rfl), fr _ (mem_at 55 rfl), fr _ (mem_at 56 rfl), fr _ (mem_at 60 rfl), fr _ (mem_at 57 rfl), fr _ (mem_at 58 rfl), fr _ (mem_at 59 rfl), fr _ (mem_at 61 rfl), fr _ (mem_at 62 rfl), fr _ (mem_at 63 rfl), fr _ (mem_at 53 rfl), ?_, ?_, ?_, ?_, ?_, gl _ (mem_at 81 rfl), tupS_ok A.rr (by decide), fr _ (mem_at 64 rfl), fr _ (mem_at 65 rfl)⟩, A.dg, ?_, ?_⟩
  · obtain ⟨t, e⟩ := He.int_ok X G (c.t.d.facts (f := .int "MOST_TEXT" 200000) (mem_at 77 rfl))
    exact ⟨_, e, t, rfl⟩
  · obtain ⟨t, e⟩ := He.int_ok X G (c.t.d.facts (f := .int "MOST_SIGNS" 8) (mem_at 76 rfl))
    exact ⟨_, e, t, rfl⟩
  · obtain ⟨t, e⟩ := He.int_ok X G (c.t.d.facts (f := .int "MOST_LEAVES" 24) (mem_at 78 rfl))
    exact ⟨_, e, t, rfl⟩
  · obtain ⟨t, e⟩ := He.str_ok X G (c.t.d.facts (f := .str "LETTERS" "abcdefghijklmnopqrstuvwxyz") (mem_at 79 rfl))
    exact ⟨_, e, t, rfl⟩
  · obtain ⟨t, e⟩ := He.str_ok X G (c.t.d.facts (f := .str "SIGNS" "abcdefghijklmnopqrstuvwxyz0123456789") (mem_at 80 rfl))
    exact ⟨_, e, t, rfl⟩
  · refine ⟨He.cls_ok (c.t.d.facts (mem_at 86 rfl)), gl _ (mem_at 82 rfl), fun x hx => He.noat_ok (c.t.d.facts (List.mem_append_left _ (List.mem_append_right _ (List.mem_map_of_mem hx))))⟩
  · exact ⟨A.tc, A.sp, A.tk, A.to, A.me, A.no, A.ne⟩
end
end W20

set_option Elab.async false
set_option linter.all false
set_option maxRecDepth 100000
set_option maxHeartbeats 0
/-! Run20: the head runs -/
namespace W20
open PySem PySem.Spec PyProof.Rows L2
theorem run (w : World) : HandSHeadRun.RunEq R (PySem.W.view R.prog [64]) hkS ob 9000 loose w := by
  intro os
  kernel_rfl
end W20

set_option Elab.async false
set_option linter.all false
set_option maxRecDepth 100000
set_option maxHeartbeats 4000000
/-! NF20: every def; the theorem -/
namespace W20
open PySem PySem.Spec PyProof.Rows L2 Lay LamX
open C8 (Cal Mak)
section
variable {w : World} {K : PySem.W.Frag} {h : Heap} {mg : Str → Option Value}
def tP (K : PySem.W.Frag) (x : Str) : Addr := (He.cT K (x, none)).2
def TT4 (K : PySem.W.Frag) : List (Addr × Str) := T4 (tP K "_law_absent_right") (tP K "_law_tree_right") (tP K "_law_comb_right") (tP K "law")
theorem above_met {P : Program} {base : Heap} {f CN : Addr} {fd : FuncData} (tc : Tc K mg) (me : Meth K (cT K) "above" f) (FA : FnOk P w K mg base (L2N.CX P w) 3 f fd ["self", "node"] (spAbove (cT K) CN)) (b : Binds K fd ["self", "node"] []) : MetN P w K mg base 3 (cT K) "above" (spAbove (cT K) CN) :=
  ⟨f, fd, ["self", "node"], tc.cls, me, FA, b⟩
theorem facts {P : Program} (X : K.In h) (G : h.Ns mainGlobals mg) (c : He.SaysX fas fns [] tfs exB w h K) : ∃ (fd : FuncData), (∀ (s : Shared) (v : Value), BindsTo s fd ⟨[v], []⟩ [("script", v)]) ∧
    ∀ base : Heap, K.In base → base.Ns mainGlobals mg → (∀ p ∈ tfs, TabB base mg (He.cT K p).1 (He.cT K p).2) →
      FnOk P w K mg base C8.CX0 31 (He.fAd K ("law", none)) fd ["script"] (spLaw K (TT4 K)) := by
  obtain ⟨fdB, B⟩ := bad_of X G c
  obtain ⟨fdN, N⟩ := nos_of X G c
  obtain ⟨fdM, M⟩ := many_of X G c
  obtain ⟨m, dk, tc, ti⟩ := mg_of X G c
  have A := all_of c
  have gl : ∀ x : Str, He.Fa.glo x ∈ fas → mg x = some (.ref (He.ga K x)) := fun x hx => He.glo_ok X G (c.t.d.facts hx)
  have df : ∀ (i : Nat) (x : Str) (j : Nat), fns[i]? = some (defD x j) → ∃ fd, Fn K x j (He.ga K x) fd := fun i x j e => c.t.d.def_ i (d := defD x j) e
  have dm : ∀ (i : Nat) (x q : Str) (j : Nat), fns[i]? = some (metD "Tree" x q 33 j) → ∃ fd, Mt K x q 33 j (He.fAd K ("Tree", some x)) fd := fun i x q j e => c.t.d.def_ i (d := metD "Tree" x q 33 j) e
  obtain ⟨f0, F0⟩ := df 0 "check_length" 22 rfl
  obtain ⟨f1, F1⟩ := df 1 "words_of" 23 rfl
  obtain ⟨f2, F2⟩ := df 2 "tree_words" 24 rfl
  obtain ⟨f3, F3⟩ := df 3 "is_value" 25 rfl
  obtain ⟨f4, F4⟩ := df 4 "is_name" 26 rfl
  obtain ⟨f5, F5⟩ := df 5 "tree_names" 28 rfl
  obtain ⟨f6, F6⟩ := df 6 "tree_halves" 29 rfl
  obtain ⟨f7, F7⟩ := df 7 "comb_of" 32 rfl
  obtain ⟨f8, F8⟩ := df 8 "_law_bag" 35 rfl
  obtain ⟨f9, F9⟩ := df 9 "_law_draw" 36 rfl
  obtain ⟨f10, F10⟩ := df 10 "_law_of" 37 rfl
  obtain ⟨f11, F11⟩ := df 11 "_law_mix" 38 rfl
  obtain ⟨f12, F12⟩ := df 12 "_law_like" 39 rfl
  obtain ⟨f13, F13⟩ := df 13 "_law_error" 40 rfl
  obtain ⟨f14, F14⟩ := df 14 "_law_try" 41 rfl
  obtain ⟨f15, F15⟩ := df 15 "_law_no" 42 rfl
  obtain ⟨f16, F16⟩ := df 16 "_law_bad" 43 rfl
  obtain ⟨f17, F17⟩ := df 17 "_law_refused" 44 rfl
  obtain ⟨f18, F18⟩ := df 18 "_law_barred" 45 rfl
  obtain ⟨f19, F19⟩ := df 19 "_law_name" 46 rfl
  obtain ⟨f20, F20⟩ := df 20 "_law_names" 47 rfl
  obtain ⟨f21, F21⟩ := df 21 "_law_leaf" 48 rfl
  obtain ⟨f22, F22⟩ := df 22 "_law_joined" 49 rfl
  obtain ⟨f23, F23⟩ := df 23 "_law_cut" 50 rfl
  obtain ⟨f24, F24⟩ := df 24 "_law_absent" 51 rfl
  obtain ⟨f25, F25⟩ := df 25 "_law_named" 52 rfl
  obtain ⟨f26, F26⟩ := df 26 "_law_tokens" 53 rfl
  obtain ⟨f27, F27⟩ := df 27 "_law_spaced" 54 rfl
  obtain ⟨f28, F28⟩ := df 28 "_law_bare_land" 55 rfl
  obtain ⟨f29, F29⟩ := df 29 "_law_lot_words" 56 rfl
  obtain ⟨f30, F30⟩ := df 30 "_law_read" 57 rfl
  obtain ⟨f31, F31⟩ := df 31 "_law_above" 58 rfl
  obtain ⟨f32, F32⟩ := df 32 "_law_node_right" 59 rfl
  obtain ⟨f33, F33⟩ := df 33 "_law_absent_right" 60 rfl
  obtain ⟨f34, F34⟩ := df 34 "_law_tree_right" 61 rfl
  obtain ⟨f35, F35⟩ := df 35 "_law_bent" 62 rfl
  obtain ⟨f36, F36⟩ := df 36 "_law_comb_right" 63 rfl
  obtain ⟨fd, F⟩ := df 37 "law" 64 rfl
  obtain ⟨g0, G0⟩ := dm 38 "__init__" "Tree.__init__" 0 rfl
  obtain ⟨g1, G1⟩ := dm 39 "lot" "Tree.lot" 1 rfl
  obtain ⟨g2, G2⟩ := dm 40 "rest" "Tree.rest" 2 rfl
  obtain ⟨g3, G3⟩ := dm 41 "halves" "Tree.halves" 3 rfl
  obtain ⟨g4, G4⟩ := dm 42 "above" "Tree.above" 4 rfl
  obtain ⟨g5, G5⟩ := dm 43 "__eq__" "Tree.__eq__" 5 rfl
  obtain ⟨g6, G6⟩ := dm 44 "__len__" "Tree.__len__" 6 rfl
  obtain ⟨g7, G7⟩ := dm 45 "__iter__" "Tree.__iter__" 7 rfl
  obtain ⟨g8, G8⟩ := dm 46 "__repr__" "Tree.__repr__" 8 rfl
  have mk := He.mkr_ok (c.t.d.facts (f := .mkr "Tree") (mem_at 87 rfl))
  have me1 := He.meth_ok (c.t.d.facts (f := .meth "Tree" "lot") (mem_at 88 rfl))
  have me2 := He.meth_ok (c.t.d.facts (f := .meth "Tree" "rest") (mem_at 89 rfl))
  have me3 := He.meth_ok (c.t.d.facts (f := .meth "Tree" "halves") (mem_at 90 rfl))
  have me4 := He.meth_ok (c.t.d.facts (f := .meth "Tree" "above") (mem_at 91 rfl))
  have me5 := He.meth_ok (c.t.d.facts (f := .meth "Tree" "__eq__") (mem_at 92 rfl))
  have me6 := He.meth_ok (c.t.d.facts (f := .meth "Tree" "__len__") (mem_at 93 rfl))
  have me7 := He.meth_ok (c.t.d.facts (f := .meth "Tree" "__iter__") (mem_at 94 rfl))
  have me8 := He.meth_ok (c.t.d.facts (f := .meth "Tree" "__repr__") (mem_at 95 rfl))
  have b := FunD.bindsA (ps := ["script"]) F fun _ _ _ _ _ _ us hl => match us, hl with | [_], _ => rfl
  refine ⟨fd, fun s v => b s [v] rfl, fun base _ _ TB => ?_⟩
  have nt := A.nt
  have TBa := TB ("_law_absent_right", none) List.mem_cons_self
  have TBt := TB ("_law_tree_right", none) (List.mem_cons_of_mem _ List.mem_cons_self)
  have TBc := TB ("_law_comb_right", none) (List.mem_cons_of_mem _ (List.mem_cons_of_mem _ List.mem_cons_self))
  have TBl := TB ("law", none) (List.mem_cons_of_mem _ (List.mem_cons_of_mem _ (List.mem_cons_of_mem _ List.mem_cons_self)))
  have nt4 : [tP K "_law_absent_right", tP K "_law_tree_right", tP K "_law_comb_right", tP K "law"].Nodup := nt
  show FnOk P w K mg base C8.CX0 31 (He.fAd K ("law", none)) fd ["script"] (spLaw K (T4 (tP K "_law_absent_right") (tP K "_law_tree_right") (tP K "_law_comb_right") (tP K "law")))
  have TBa : TabB base mg (He.cT K ("_law_absent_right", none)).1 (tP K "_law_absent_right") := TBa
  have TBt : TabB base mg (He.cT K ("_law_tree_right", none)).1 (tP K "_law_tree_right") := TBt
  have TBc : TabB base mg (He.cT K ("_law_comb_right", none)).1 (tP K "_law_comb_right") := TBc
  have TBl : TabB base mg (He.cT K ("law", none)).1 (tP K "law") := TBl
  generalize tP K "_law_absent_right" = Pa at nt4 TBa ⊢
  generalize tP K "_law_tree_right" = Pt at nt4 TBt ⊢
  generalize tP K "_law_comb_right" = Pc at nt4 TBc ⊢
  generalize tP K "law" = Pl at nt4 TBl ⊢
  simp only [List.nodup_cons, List.mem_cons, List.not_mem_nil, or_false, not_or, List.nodup_nil, and_true, not_false_eq_true] at nt4
  obtain ⟨⟨n1, n2, n3⟩, ⟨n4, n5⟩, n6⟩ := nt4
  have ua : ∀ p ∈ T4 Pa Pt Pc Pl, p.1 = Pa → p.2 = q60 := fun p hp e => by
    simp only [T4, List.mem_cons, List.not_mem_nil, or_false] at hp
    rcases hp with rfl | rfl | rfl | rfl
    · rfl
    · exact absurd e.symm n1
    · exact absurd e.symm n2
    · exact absurd e.symm n3
  have ut : ∀ p ∈ T4 Pa Pt Pc Pl, p.1 = Pt → p.2 = q61 := fun p hp e => by
    simp only [T4, List.mem_cons, List.not_mem_nil, or_false] at hp
    rcases hp with rfl | rfl | rfl | rfl
    · exact absurd e n1
    · rfl
    · exact absurd e.symm n4
    · exact absurd e.symm n5
  have uc : ∀ p ∈ T4 Pa Pt Pc Pl, p.1 = Pc → p.2 = q63 := fun p hp e => by
    simp only [T4, List.mem_cons, List.not_mem_nil, or_false] at hp
    rcases hp with rfl | rfl | rfl | rfl
    · exact absurd e n2
    · exact absurd e n4
    · rfl
    · exact absurd e.symm n6
  have ul : ∀ p ∈ T4 Pa Pt Pc Pl, p.1 = Pl → p.2 = q64 := fun p hp e => by
    simp only [T4, List.mem_cons, List.not_mem_nil, or_false] at hp
    rcases hp with rfl | rfl | rfl | rfl
    · exact absurd e n3
    · exact absurd e n5
    · exact absurd e n6
    · rfl
  have c0 := ok_check (P := P) (w := w) (base := base) m F0 (gl _ (mem_at 0 rfl))
  have c1 := ok_words (P := P) (w := w) (base := base) m F1 (gl _ (mem_at 1 rfl))
  have c2 := ok_tree_words m c1 F2 (gl _ (mem_at 2 rfl))
  have c3 := ok_is_value (P := P) (w := w) (base := base) m F3 (gl _ (mem_at 3 rfl))
  have c4 := ok_is_name m c3 F4 (gl _ (mem_at 4 rfl))
  have c5 := ok_tree_names m c4 F5 (gl _ (mem_at 5 rfl))
  have c6 := ok_tree_halves (P := P) (w := w) (base := base) m dk F6 (gl _ (mem_at 6 rfl))
  have ct := ok_init m tc mk B M c0 c2 c5 c6 G0
  have c7 := ok_comb m dk tc B M c4 ct F7 (gl _ (mem_at 7 rfl))
  have cl := ok_lot (P := P) (w := w) (base := base) tc me1 N G1
  have cr := ok_rest m tc me2 cl G2
  have ch := ok_halves (P := P) (w := w) (base := base) tc me3 N G3
  have caF := ok_aboveF (P := P) (w := w) (base := base) tc N G4
  have ca := above_met tc me4 caF (G4.bindsN fun _ _ _ _ _ _ us hl => match us, hl with | [_, _], _ => rfl)
  have e5 := ok_eq (P := P) (w := w) (base := base) m tc ti G5
  have e6 := ok_len (P := P) (w := w) (base := base) m tc G6
  have e7 := ok_iter (P := P) (w := w) (base := base) m tc G7
  have e8 := ok_repr (P := P) (w := w) (base := base) dk tc G8
  have c8 := ok_bag (P := P) (w := w) (base := base) m F8 (gl _ (mem_at 8 rfl))
  have c9 := ok_draw (P := P) (w := w) (base := base) m F9 (gl _ (mem_at 9 rfl))
  have c10 := ok_pick m c9 F10 (gl _ (mem_at 10 rfl))
  have c11 := ok_mix m c9 F11 (gl _ (mem_at 11 rfl))
  have cl3 := ok_like (P := P) (w := w) (base := base) m F12 (gl _ (mem_at 12 rfl)) 3
  have cl4 := ok_like (P := P) (w := w) (base := base) m F12 (gl _ (mem_at 12 rfl)) 4
  have ceB := ok_errB (P := P) (w := w) (base := base) m B F13 (gl _ (mem_at 13 rfl))
  have ceS := ok_errSM (P := P) (w := w) (base := base) m N M F13 (gl _ (mem_at 13 rfl))
  have c14 := ok_try B N M ceB ceS F14 (gl _ (mem_at 14 rfl)) 7 (by decide)
  have c15 := ok_no (P := P) (w := w) (base := base) m F15 (gl _ (mem_at 15 rfl))
  have c16 := ok_bad (P := P) (w := w) (base := base) m F16 (gl _ (mem_at 16 rfl))
  have cbM := ok_badM (P := P) (w := w) (base := base) m F16 (gl _ (mem_at 16 rfl))
  have c17 := ok_refused cl3 7 c14 (by decide) F17 (gl _ (mem_at 17 rfl))
  have c18 := ok_barred (P := P) (w := w) (base := base) m F18 (gl _ (mem_at 18 rfl))
  have c19 := ok_name m c10 c18 F19 (gl _ (mem_at 19 rfl))
  have c20 := ok_names m dk c19 F20 (gl _ (mem_at 20 rfl))
  have c21 := ok_leaf (P := P) (w := w) (base := base) m F21 (gl _ (mem_at 21 rfl))
  have c22 := ok_join (P := P) (w := w) (base := base) m F22 (gl _ (mem_at 22 rfl))
  have c23 := ok_cut m c9 c21 c22 F23 (gl _ (mem_at 23 rfl)) 25
  have c24 := ok_absent m c19 c9 F24 (gl _ (mem_at 24 rfl))
  have c25 := ok_named m c18 F25 (gl _ (mem_at 25 rfl))
  have c26 := ok_tokens (P := P) (w := w) (base := base) m F26 (gl _ (mem_at 26 rfl))
  have c27 := ok_spaced m c10 F27 (gl _ (mem_at 27 rfl))
  have c28 := ok_bare (P := P) (w := w) (base := base) m F28 (gl _ (mem_at 28 rfl))
  have c29 := ok_lotw (P := P) (w := w) (base := base) m F29 (gl _ (mem_at 29 rfl))
  have c30 := ok_read m c25 c22 F30 (gl _ (mem_at 30 rfl))
  have c31 := ok_abv (P := P) (w := w) (base := base) m F31 (gl _ (mem_at 31 rfl))
  have c32 := ok_noder m tc c29 c31 cl4 cl cr ch me4 caF (kbn_above G4) F32 (gl _ (mem_at 32 rfl))
  have c33 := ok_absr m tc c9 c15 cl cr ch ca c17 F33 (gl _ (mem_at 33 rfl)) (T2 := T4 Pa Pt Pc Pl) (by simp [T4]) ua rfl TBa
  have c34 := ok_treer m dk tc ti c9 c10 c26 c30 c16 cbM c28 c29 cl4 c32 c24 c27 ct c17 e5 me5.at_ me5.fn (G5.bindsN fun _ _ _ _ _ _ us hl => match us, hl with | [_, _], _ => rfl) e8 me8.at_ me8.fn (G8.bindsN fun _ _ _ _ _ _ us hl => match us, hl with | [_], _ => rfl) ⟨me7.at_, me7.fn, me6.at_, me6.fn⟩ e7 (G7.bindsN fun _ _ _ _ _ _ us hl => match us, hl with | [_], _ => rfl) e6 (G6.bindsN fun _ _ _ _ _ _ us hl => match us, hl with | [_], _ => rfl) F34 (gl _ (mem_at 34 rfl)) (T2 := T4 Pa Pt Pc Pl) (by simp [T4]) ut c33 rfl TBt
  have c35 := ok_bent m c9 c10 c18 c19 F35 (gl _ (mem_at 35 rfl))
  have c36 := ok_combr m tc c9 c10 c18 c16 cbM cl4 c7 c17 F36 (gl _ (mem_at 36 rfl)) (T2 := T4 Pa Pt Pc Pl) (by simp [T4]) uc rfl TBc
  exact ok_law m ti tc c8 c9 c10 c20 c11 c28 c23 c26 c27 c35 cl4 c16 ct c17 e5 me5.at_ me5.fn (G5.bindsN fun _ _ _ _ _ _ us hl => match us, hl with | [_, _], _ => rfl) F (T2 := T4 Pa Pt Pc Pl) (by simp [T4]) ul c34 c36 rfl TBl
end
end W20
open PySem PySem.W PySem.Calls PyProof.Rows
theorem PySem.Challenge.cw_waysacross_k20_trees_told_holds : PySem.Challenge.rw_waysacross_k20_trees_told.Holds := by
  w_on; o_law
  refine HandSHeadRun.head_any (r := OpenLaw.row PySem.Challenge.rw_waysacross_k20_trees_told) (q := view (OpenLaw.row PySem.Challenge.rw_waysacross_k20_trees_told).prog [64]) (H := W20.hkS) (ob := W20.ob) (M := 9000) (loose := W20.loose) (d := HandSHeadRun.topDef (OpenLaw.row PySem.Challenge.rw_waysacross_k20_trees_told).prog 64) (kwd := []) W20.ob_eq
    (by kernel_rfl) (fun s => by kernel_rfl) W20.run (by kernel_rfl) (by kernel_rfl) (by kernel_rfl) (by rfl) (by first | assumption | decide +kernel) (by decide +kernel) ⟨rfl, rfl, rfl, rfl, rfl, by decide +kernel⟩ ?hw ?hc
  case hw => w_witness2
  case hc =>
    refine LamX.walk_ofTsE (l := PySem.Challenge.rw_waysacross_k20_trees_told) (n := 63) (k := 31) (x := "script") (CX := fun _ => C8.CX0) rfl (by decide) (by kernel_rfl) ⟨rfl, by decide, by decide⟩ ?F (fun _ _ _ _ _ z => z)
    intro w mg fa h Y G hmg0
    obtain ⟨K, KX, c⟩ := Y
    have hmg : mg ("law" : PySem.Str) = some (.ref fa) := by
      have e : (HandSHeadRun.topDef (OpenLaw.row PySem.Challenge.rw_waysacross_k20_trees_told).prog 64).name = ("law" : PySem.Str) := by kernel_rfl
      rw [← e]
      exact hmg0
    have e := hmg.symm.trans (He.glo_ok KX G (c.t.d.facts (f := .glo "law") (W20.mem_at 37 rfl)))
    cases e
    obtain ⟨fd, hb, hF⟩ := W20.facts (P := (PySem.Challenge.rw_waysacross_k20_trees_told).prog) KX G c
    refine ⟨K, KX, fd, W20.tfs.map (He.cT K), W20.spLaw K (W20.TT4 K), ?_, ?_, ?_, hb, ?_, ?_⟩
    · intro p hp
      obtain ⟨x, hx, rfl⟩ := List.mem_map.mp hp
      exact c.empty _ hx
    · intro p hp
      obtain ⟨x, hx, rfl⟩ := List.mem_map.mp hp
      exact c.out _ hx
    · intro p hp
      obtain ⟨x, hx, rfl⟩ := List.mem_map.mp hp
      exact PySem.W.codeHd_of_K KX (c.hd _ hx)
    · intro H a ns _ _ hT hS
      refine ⟨a, ns, rfl, hS, fun p hp => ?_, fun _ => rfl⟩
      simp only [W20.TT4, W20.T4, List.mem_cons, List.not_mem_nil, or_false] at hp
      rcases hp with rfl | rfl | rfl | rfl
      · exact hT _ (List.mem_map_of_mem (f := He.cT K) (a := (("_law_absent_right", none) : He.Defn)) List.mem_cons_self)
      · exact hT _ (List.mem_map_of_mem (f := He.cT K) (a := (("_law_tree_right", none) : He.Defn)) (List.mem_cons_of_mem _ List.mem_cons_self))
      · exact hT _ (List.mem_map_of_mem (f := He.cT K) (a := (("_law_comb_right", none) : He.Defn)) (List.mem_cons_of_mem _ (List.mem_cons_of_mem _ List.mem_cons_self)))
      · exact hT _ (List.mem_map_of_mem (f := He.cT K) (a := (("law", none) : He.Defn)) (List.mem_cons_of_mem _ (List.mem_cons_of_mem _ (List.mem_cons_of_mem _ List.mem_cons_self))))
    · intro base KB GB TB
      exact hF base KB GB fun p hp => TB _ (List.mem_map_of_mem hp)

