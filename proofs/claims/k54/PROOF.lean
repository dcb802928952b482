import PyProof.Rows.All
import Wide.All
import OpenK.AllK
import Wide.FinOn
import KE.KExcSuper
import KE.KExcInit
import KE.KDictKeyed
import KE.KDictZip
import HandS.ForMost
import HandS.ForExc
import HandS.Style
import HandS.Deep
import HandS.Conv
import HandS.SortInts
import HandS.SortRule
import HandS.TupAny
import HandS.TupMul
import HandS.IsInst
import HandS.MakeKw
import HandS.MakeKwOnly
import HandS.TryMany
import HandS.CallSlots
import HandS.ExcField
import HandS.ExcIs
import HandS.Codes
import HandS.Walk
import HandS.Zip
import HandS.More
import HandS.Defaults
import HandS.NoneIn
import KE.GoesZip
import KE.GoesEnum
import KE.GoesDict
import KE.GoesMore
import HandS.ExcSuper
import PyProof.NeKinds
import PyProof.P3In
import PyProof.Rows.InDataRows
import PySem.Challenge.RW_whichstay_k54_whole_lists_right_in_house
import KE.KStateDown
import HandS.Words
import HandS.Ends
import HandS.WordsExc
import HandS.Head0
import HandS.Head1
import HandS.Head2
import HandS.HeadEnd
import HandS.HeadHook1
import HandS.HeadHook2
section
set_option Elab.async false
set_option linter.all false
set_option maxRecDepth 100000
set_option maxHeartbeats 4000000
/-! K1: rules that lack in the layer. -/
namespace SrtO
open PySem PyProof.Rows Srt
section
variable {prog : Program} {w : World} {A : Around} {E : Value → Shared → Prop} {s : Shared}
theorem gather_tup {l : Addr} {vs : List Value} {Q : List Value → Shared → Prop} (hl : IsTup s.heap l vs.toArray)
    (h : Q vs { s with heap := (s.heap.push (seqObj "list" #[] 0)).update s.heap.objs.size (Obj.mapSeq (· ++ vs.toArray)) }) (hsz : vs.length ≤ sizeLine) :
    wpAny (model prog w) A (collect (.ref l)) Q E s := by
  obtain ⟨o, ho, hc, n, hd⟩ := id hl
  unfold collect
  refine wpAny_bind (wpAny_runValue (codeAny_builtin entry_proto_collect' ?_))
  show wpAny _ _ (do again (.builtin "list.__iadd__" ⟨[← newList [], .ref l], []⟩)) _ _ s
  refine wpAny_bind (wpAny_newList (wpAny_pure ⟨Code.quiet_builtin _ (by decide +kernel), codeAny_builtin entry_list_iadd' ?_⟩))
  show wpAny _ _ (Builtin.List.listExtendWith (.ref s.heap.objs.size) (.ref l) (.ref s.heap.objs.size)) _ _ { s with heap := s.heap.push (seqObj "list" #[] 0) }
  unfold Builtin.List.listExtendWith
  have ho' : (s.heap.push (seqObj "list" #[] 0)).get? l = some o := Heap.get?_push_of_some _ ho
  refine wpAny_bind (wpAny_typeOf (T := "tuple") ⟨o, ho', hc⟩ ?_)
  have ht : (Value.type "tuple" == Value.type "tuple") = true := by rfl
  rw [if_pos (by rw [ht]; simp)]
  refine wpAny_bind (listItems_at ho' hd ?_)
  refine wpAny_bind (listItems_at (xs := #[]) (n := 0) (Heap.get?_push_size _ rfl) rfl ?_)
  rw [if_neg (by simp)]
  refine wpAny_bind (listUpdate_at (xs := #[]) (n := 0) (Heap.get?_push_size _ rfl) rfl ?_ (Nat.zero_le _) (by show (#[] ++ vs.toArray).size ≤ sizeLine + 1; simp only [Array.size_append, List.size_toArray, List.length_nil]; omega))
  refine wpAny_pure ?_
  show wpAny (model prog w) A (do
      let o ← load s.heap.objs.size
      match o.data with
      | .seq xs _ => pure xs.toList
      | _ => unsupported "internal:collect") Q E { s with heap := (s.heap.push (seqObj "list" #[] 0)).update s.heap.objs.size (Obj.mapSeq (· ++ vs.toArray)) }
  refine wpAny_bind (wpAny_load (get?_update_seq (Heap.get?_push_size _ rfl) _) ?_)
  show wpAny _ _ (pure ((#[] : Array Value) ++ vs.toArray).toList) Q E _
  rw [show ((#[] : Array Value) ++ vs.toArray).toList = vs by simp]
  exact wpAny_pure h
/-- sorted(t), t a tuple -/
theorem sorted_tup {t : Addr} {vs : List Value} {ltv : Value → Value → Bool} {Q : Value → Shared → Prop} (O : Swo ltv) (ht : IsTup s.heap t vs.toArray) (hz : vs.length ≤ sizeLine)
    (hS : 2 ≤ vs.length → ∀ (h₁ : Heap) (a : Addr), h₁.get? a = some (seqObj "list" vs.toArray 0) → SortableO prog w A.in1.in1 { s with heap := h₁ } a vs ltv)
    (h : ∀ out : List Value, Srtd ltv out → Stb ltv out vs → Q (.ref (s.heap.objs.size + 1)) { s with heap := sortedAll s.heap vs out.toArray }) :
    wpAny (model prog w) A (call (.builtin "sorted") [.ref t]) Q E s := by
  refine Calls.call_function_entry kind_sorted plain_sorted entry_sorted (args_sorted1 _) ?_
  unfold Builtin.«sorted»
  refine wpAny_bind (m := checkCount "sorted" 1 1 _) (wpAny_pure ?_)
  refine wpAny_bind (gather_tup ht ?_ hz)
  refine wpAny_bind (wpAny_newList ?_ hz)
  have hsz : ((s.heap.push (seqObj "list" #[] 0)).update s.heap.objs.size (Obj.mapSeq (· ++ vs.toArray))).objs.size = s.heap.objs.size + 1 := by
    rw [Heap.size_update, size_push']
  have hoL : (((s.heap.push (seqObj "list" #[] 0)).update s.heap.objs.size (Obj.mapSeq (· ++ vs.toArray))).push (seqObj "list" vs.toArray 0)).get? (s.heap.objs.size + 1) = some (seqObj "list" vs.toArray 0) := by
    rw [← hsz]; exact Heap.get?_push_size _ rfl
  show wpAny _ _ _ _ _ { s with heap := ((s.heap.push (seqObj "list" #[] 0)).update s.heap.objs.size (Obj.mapSeq (· ++ vs.toArray))).push (seqObj "list" vs.toArray 0) }
  rw [hsz]
  refine wpAny_bind (wpAny_holding (wpAny_call_entry slot_list_sort ⟨_, hoL, rfl⟩ entry_list_sort (list_sort_ord O hoL hz (fun h2 => hS h2 _ _ hoL) fun out hs hb => ⟨_, rfl, ?_⟩) (args_list_sort _)))
  exact wpAny_pure ⟨_, rfl, h out hs hb⟩
end
end SrtO

namespace L2
open PySem PySem.Spec PyProof.Rows
/-- sorted(t), t a tuple of ints -/
def rSortedTI (K : PySem.W.Frag) : List V → Hp → VK → Prop := fun vs H Q => ∃ (a : Addr) (ns : List Int), vs = [V.ref a] ∧ SqT K H a (ns.map V.int) ∧
  ∀ (ns' : List Int) (p : Addr), ns'.Perm ns → ns'.Pairwise (· ≤ ·) → H p = none → Q (.ref p) (upd H p (.lst (ns'.map V.int)))
section
variable {X : Cx}
theorem cr_sortedTI : CallR X (.builtin "sorted") (rSortedTI X.K) := by
  intro pins s σ H vs us Q I r h
  obtain ⟨a, ns, rfl, hs, q⟩ := h
  obtain ⟨its, rv, hl, hz⟩ := I.tuple hs
  rw [Vals.ref1 r]
  have hi := rv.ints
  refine SrtO.sorted_tup SrtO.swo_int hl (by rw [← rv.length]; exact hz) (fun h2 h₁ a' _ => SrtO.ints_sortable hi h2) fun out h1 h2 => ?_
  obtain ⟨k1, k2, k3⟩ := SrtO.ints_out hi h1 h2
  obtain ⟨ep, he'⟩ := PyProof.Rows.sortedAll_at s.heap its out.toArray
  have hlen : ((out.map SrtO.iv).map V.int).length ≤ sizeLine := by
    rw [List.length_map, k2.length_eq]
    rw [List.length_map] at hz
    exact hz
  exact ⟨.ref _, upd H (s.heap.objs.size + 1) (.lst ((out.map SrtO.iv).map V.int)), I.laid (t' := s.toks) (fun _ _ => PyProof.Rows.sortedAll_old) (Nat.le_succ _) ⟨hlen, out, ep, vals_of_ints k1, he'⟩, rfl, q _ _ k2 k3 (I.hok.fresh (Nat.le_succ _))⟩

/-! ### an attribute as a target -/
def gFld (K : PySem.W.Frag) (ta : TE) (f : Str) : TG := fun v σ H Q => ta σ H fun x H2 => ∃ a C dx fs, x = .ref a ∧ H2 a = some (.ins C dx fs) ∧ Cls K C ∧ NoAttr K C f ∧ fs.length < 1000 ∧ Q σ (upd H2 a (.ins C dx (putF f v fs)))
theorem pg_fld {o : Expr} {ta : TE} {f : Str} {pos : Pos} (ho : PE X o ta) : PG X (.Attribute o f pos) (gFld X.K ta f) := by
  refine ⟨fun pins s σ H v u Q I r h => ?_⟩
  rw [arm_assign_Attribute]
  refine wpAny_bind (wpAny_holding (thn (ho.run pins s σ H _ I h) fun ov s1 ⟨x, H1, I1, r1, a, C, dx, fs, ex, ea, c, n, l, q⟩ => ?_))
  subst ex
  obtain rfl : ov = Value.ref a := r1
  refine wpAny_bind (wpAny_standAt (wpAny_bind (wpAny_holding (setattr_ok I1 ea c n l r fun s3 I3 => ?_))))
  exact wpAny_release ⟨σ, _, I3, q⟩

/-! ### o.m(k = v, ..): keywords alone -/
def tMethK (C : Addr) (m : Str) (n : Nat) (sp : Sp) (gV : List V → List V → List V) (E : XK) (ta : TE) (tk : TA) : TE := fun σ H Q => ta σ H fun x H1 => ∃ a dx fs, x = .ref a ∧ H1 a = some (.ins C dx fs) ∧ fs.lookup m = none ∧
  tk σ H1 fun zs H2 => zs.length = n ∧ sp (gV [x] zs) H2 Q E
theorem pe_methK {CX : CXT} {k : Nat} {f C : Addr} {fd : FuncData} {ps ks : List Str} {sp : Sp} {E : XK} {m : Str} {pos apos : Pos} {o : Expr} {kws : List Keyword} {ta : TE} {tk : TA} {g : List Value → List Value → List Value} {gV : List V → List V → List V} {pl : Sem Bool}
    (he : PE X o ta) (c : Cls X.K C) (hm : Meth X.K C m f) (F : FnOk X.prog X.w X.K X.mg X.base CX k f fd ps sp) (hr : Room k X.A) (hb : KBn X.K fd ps 1 ks g gV) (hx : Passes CX X E) (hkw : PK X kws tk)
    (hall : (backToKw pos (keywordEach kws X.env)).all (·.1.isSome) = true := by rfl) (hks : (backToKw pos (keywordEach kws X.env)).filterMap (·.1) = ks := by rfl)
    (hpl : ((backTo pos (starEach [] X.env)).any (·.1) || (backToKw pos (keywordEach kws X.env)).any (·.1.isNone)) = false := by rfl)
    (ht : eval (.Call (.Attribute o m apos) [] kws pos) X.env = (do
      let ov ← eval o X.env
      standAt apos.atName
      let (f, first) ← holding [ov] (getMethod ov m pl)
      callWith pos f first (backTo pos (starEach [] X.env)) (backToKw pos (keywordEach kws X.env))) := by rfl) :
    PE X (.Call (.Attribute o m apos) [] kws pos) (tMethK C m ks.length sp gV E ta tk) := by
  refine ⟨fun pins s σ H Q I h => ?_⟩
  refine PySem.W.methodCall_KW (pl := pl) (thn (he.run pins s σ H _ I h) fun u s1 ⟨x, H1, I1, rx, a, dx, fs, ex, ea, l, q⟩ => ?_) ht
  subst ex
  obtain rfl : u = Value.ref a := rx
  refine getmeth_ok I1 ea c hm l ?_
  refine PySem.W.callWith_KW0 (first := [.ref a]) (h₀ := X.base) I.ok.mod.kin hm.kp hall ?_ hpl
  refine thn (hkw.run pos pins s1 σ H1 _ I1 q) fun ws s2 ⟨zs, H2, I2, rz, l2, q2⟩ => ⟨I2.kIn, ?_⟩
  rw [hks]
  exact run_fnN (us := [.ref a]) (vs := [.ref a]) F hr hb hx I2 (.cons rfl .nil) rz rfl l2 q2
end
end L2
end
section
set_option Elab.async false
set_option linter.all false
set_option maxRecDepth 100000
set_option maxHeartbeats 4000000
/-! K2: a zip whatever tuple it holds; enumerate over it; dict over it. -/
namespace PySem
open Sem (wp)
abbrev zipO (f0 f1 : Value) (TI TO : Addr) : Obj := { cls := .type "zip", dict := none, data := .fields #[f0, f1, .bool false, .ref TI, .ref TO], slots := #[] }
/-- a zip, its own tuple free or out -/
def ZSt (h : Heap) (z TI TO : Addr) : Prop := ∃ f0 f1, h.get? z = some (zipO f0 f1 TI TO) ∧ (f0 = .none ∨ ∃ T : Addr, f0 = rawInt T)
section
variable {prog : Program} {w : World} {M : Model} {A : Around} {E : Value → Shared → Prop} {s : Shared} {z TI TO i1 i2 : Addr} {fp1 fp2 : List Addr} {n1 n2 i : Nat} {P1 P2 : Nat → Value → Prop} {St1 St2 : Nat → Heap → Prop} {a1 a2 f0 f1 : Value}
theorem zip_free {Q : Bool → Shared → Prop} (hz : s.heap.get? z = some (zipO f0 f1 TI TO)) (hf : f0 = .none ∨ ∃ T : Addr, f0 = rawInt T) (h1 : Q true s)
    (h2 : ∀ h' g1, h'.get? z = some (zipO f0 g1 TI TO) → Heap.SameBut z s.heap h' → Q false { s with heap := h' }) : wpAny (model prog w) A (Builtin.SmallTypes.ownedTupleIsFree (.ref z)) Q E s := by
  unfold Builtin.SmallTypes.ownedTupleIsFree
  rcases hf with rfl | ⟨T, rfl⟩
  · exact wpAny_bind (wpAny_field hz rfl (x := .none) rfl (wpAny_pure h1))
  · refine wpAny_bind (wpAny_field hz rfl (x := rawInt T) rfl ?_)
    show wpAny _ _ (loadIfAlive ((T : Int).toNat) >>= _) _ _ _
    rw [Int.toNat_natCast]
    cases hT : s.heap.get? T with
    | none =>
      have al : ∀ {Q' : Option Obj → Shared → Prop}, Q' none s → wpAny (model prog w) A (loadIfAlive T) Q' E s := fun {Q'} h => by
        have h' : Q' (s.heap.get? T) s := by rw [hT]; exact h
        exact fun _ _ _ => h'
      refine wpAny_bind (al ?_)
      exact wpAny_pure h1
    | some oT =>
      have al : ∀ {Q' : Option Obj → Shared → Prop}, Q' (some oT) s → wpAny (model prog w) A (loadIfAlive T) Q' E s := fun {Q'} h => by
        have h' : Q' (s.heap.get? T) s := by rw [hT]; exact h
        exact fun _ _ _ => h'
      refine wpAny_bind (al ?_)
      simp only [Option.isNone_some, Bool.false_eq_true, if_false]
      refine wpAny_bind (wpAny_field hz rfl (x := f1) rfl ?_)
      by_cases q : (f1 != .bool true) = true
      · rw [if_pos q]
        exact wpAny_bind (wpAny_setField_rec hz (by simp) fun h₁ hz₁ hs₁ => wpAny_pure (h2 h₁ (.bool true) hz₁ hs₁))
      · rw [if_neg q]
        exact wpAny_pure (h2 s.heap f1 hz (Heap.SameBut.refl _ _))

theorem zipS_next_item {Q : Value → Shared → Prop} (S : ZipSep2 z TI TO i1 i2 fp1 fp2) (D1 : Draws prog w A i1 fp1 n1 P1 St1) (D2 : Draws prog w A i2 fp2 n2 P2 St2)
    (hzs : ZSt s.heap z TI TO) (hTI : IsTupOf2 s.heap TI (.ref i1) (.ref i2)) (hTO : ∃ a1 a2, IsTupOf2 s.heap TO a1 a2) (st1 : St1 i s.heap) (st2 : St2 i s.heap) (hlt1 : i < n1) (hlt2 : i < n2)
    (hQ : ∀ x1 x2 h' tk, P1 i x1 → P2 i x2 → ZSt h' z TI TO → IsTupOf2 h' TI (.ref i1) (.ref i2) → (∃ a1 a2, IsTupOf2 h' TO a1 a2) → St1 (i + 1) h' → St2 (i + 1) h' → IsTupOf2 h' s.heap.objs.size x1 x2 → h'.objs.size = s.heap.objs.size + 1 →
      (∀ c o, c ≠ z → c ≠ TO → c ≠ i1 → c ≠ i2 → s.heap.get? c = some o → h'.get? c = some o) → Q (.ref s.heap.objs.size) { s with heap := h', toks := tk }) :
    wpAny (model prog w) A (Builtin.«zip.__next__» ⟨[.ref z], []⟩) (fun fin s' => ∃ v, fin = .done (.ret v) ∧ Q v s') E s := by
  obtain ⟨f0, f1, hz, hf⟩ := hzs
  obtain ⟨a1, a2, hTO⟩ := hTO
  obtain ⟨hp, g, d, tk0, os⟩ := s
  show wpAny _ _ (field (.ref z) 2 >>= _) _ _ _
  refine wpAny_bind (wpAny_field hz rfl (x := .bool false) rfl ?_)
  show wpAny _ _ (field (.ref z) 3 >>= _) _ _ _
  refine wpAny_bind (wpAny_field hz rfl (x := .ref TI) rfl ?_)
  refine wpAny_bind (wpAny_seqItems hTI rfl ?_)
  show wpAny _ _ (Builtin.SmallTypes.ownedTupleIsFree (.ref z) >>= _) _ _ _
  refine wpAny_bind (zip_free hz hf ?_ fun gg g1 hz1 hs1 => ?_)
  · simp only [if_true]
    refine wpAny_bind (wpAny_rule ?_)
    refine wpAny_bind (wpAny_field hz rfl (x := .ref TO) rfl ?_)
    refine wpAny_bind (wpAny_setField_rec hz (by simp) fun g0 hz0 hs0 => ?_)
    replace hz0 : g0.get? z = some (zipO .ellipsis f1 TI TO) := hz0
    replace hs0 : Heap.SameBut z hp g0 := hs0
    refine wpAny_bind ?_
    simp only [List.zipIdx_cons, List.zipIdx_nil, List.forIn_cons, List.forIn_nil]
    refine wpAny_bind (wpAny_bind (wpAny_onRaise ?_))
    show wpAny _ _ (Builtin.SmallTypes.nextOf (.ref i1) >>= _) _ _ ⟨g0, g, d, tk0, os⟩
    refine wpAny_bind (D1.item i _ _ _ hlt1 (D1.over st1 hs0 S.zf1) fun x1 p1 tk1 hx1 sn1 hp1 => wpAny_pure ?_)
    replace hp1 : Heap.SameBut i1 g0 p1 := hp1
    have hU1 : IsTupOf2 p1 TO a1 a2 := hp1.extBut _ _ S.Ti1 (hs0.extBut _ _ S.TOz hTO)
    refine wpAny_bind (wpAny_seqItems (s := ⟨p1, g, d, tk1, os⟩) hU1 rfl ?_)
    refine wpAny_bind (updateSeq_IsTupOf2 (s := ⟨p1, g, d, tk1, os⟩) hU1 fun g1 hT1 hs1 => ?_)
    replace hT1 : IsTupOf2 g1 TO x1 a2 := hT1
    replace hs1 : Heap.SameBut TO p1 g1 := hs1
    refine wpAny_bind (wpAny_letGo (wpAny_pure ?_))
    refine wpAny_bind (wpAny_bind (wpAny_onRaise ?_))
    show wpAny _ _ (Builtin.SmallTypes.nextOf (.ref i2) >>= _) _ _ ⟨g1, g, d, tk1, os⟩
    refine wpAny_bind (D2.item i _ _ _ hlt2 (D2.over (D2.over (D2.over st2 hs0 S.zf2) hp1 S.sep1_2) hs1 S.Tf2) fun x2 p2 tk2 hx2 sn2 hp2 => wpAny_pure ?_)
    replace hp2 : Heap.SameBut i2 g1 p2 := hp2
    have hU2 : IsTupOf2 p2 TO x1 a2 := hp2.extBut _ _ S.Ti2 hT1
    refine wpAny_bind (wpAny_seqItems (s := ⟨p2, g, d, tk2, os⟩) hU2 rfl ?_)
    refine wpAny_bind (updateSeq_IsTupOf2 (s := ⟨p2, g, d, tk2, os⟩) hU2 fun g2 hT2 hs2 => ?_)
    replace hT2 : IsTupOf2 g2 TO x1 x2 := hT2
    replace hs2 : Heap.SameBut TO p2 g2 := hs2
    refine wpAny_bind (wpAny_letGo (wpAny_pure (wpAny_pure ?_)))
    refine wpAny_bind (wpAny_seqItems (s := ⟨g2, g, d, tk2, os⟩) hT2 rfl ?_)
    refine wpAny_bind (wpAny_newTuple ?_)
    have hsz : g2.objs.size = hp.objs.size := by rw [hs2.1, hp2.1, hs1.1, hp1.1, hs0.1]
    have hzz : g2.get? z = some (zipO .ellipsis f1 TI TO) := (hs2.extBut _ _ S.TOz.symm (hp2.extBut _ _ S.zi2 (hs1.extBut _ _ S.TOz.symm (hp1.extBut _ _ S.zi1 hz0))))
    have hkk : ∀ c o, c ≠ z → c ≠ TO → c ≠ i1 → c ≠ i2 → hp.get? c = some o → g2.get? c = some o := fun c o cz cT c1 c2 e =>
      (hs2.extBut _ _ cT (hp2.extBut _ _ c2 (hs1.extBut _ _ cT (hp1.extBut _ _ c1 (hs0.extBut _ _ cz e)))))
    have hj1 : St1 (i + 1) g2 := (D1.over (D1.over (D1.over sn1 hs1 S.Tf1) hp2 S.sep2_1) hs2 S.Tf1)
    have hj2 : St2 (i + 1) g2 := (D2.over sn2 hs2 S.Tf2)
    have hzlt : z < g2.objs.size := Heap.lt_size hzz
    show wpAny _ _ (Builtin.SmallTypes.ownedTupleHandOut (.ref z) (.ref g2.objs.size) >>= _) _ _ ⟨g2.push { cls := .type "tuple", data := .seq #[x1, x2] }, g, d, tk2, os⟩
    refine wpAny_bind ?_
    unfold Builtin.SmallTypes.ownedTupleHandOut
    have hz₆ : (g2.push { cls := .type "tuple", data := .seq #[x1, x2] }).get? z = some (zipO .ellipsis f1 TI TO) := Heap.get?_push_of_some _ hzz
    refine wpAny_bind (wpAny_setField_rec hz₆ (by simp) fun h₇ hz₇ hs₇ => ?_)
    replace hz₇ : h₇.get? z = some (zipO (rawInt g2.objs.size) f1 TI TO) := hz₇
    refine wpAny_setField_rec hz₇ (by simp) fun h₈ hz₈ hs₈ => ?_
    replace hz₈ : h₈.get? z = some (zipO (rawInt g2.objs.size) (.bool false) TI TO) := hz₈
    replace hs₇ : Heap.SameBut z (g2.push { cls := .type "tuple", data := .seq #[x1, x2] }) h₇ := hs₇
    replace hs₈ : Heap.SameBut z h₇ h₈ := hs₈
    have up : ∀ c o, c ≠ z → g2.get? c = some o → h₈.get? c = some o := fun c o c1 e => hs₈.extBut _ _ c1 (hs₇.extBut _ _ c1 (Heap.get?_push_of_some _ e))
    have hT₈ : IsTupOf2 h₈ g2.objs.size x1 x2 := hs₈.extBut _ _ (Nat.ne_of_gt hzlt) (hs₇.extBut _ _ (Nat.ne_of_gt hzlt) (Heap.get?_push_size _ rfl))
    have hz8 : h₈.objs.size = g2.objs.size + 1 := by rw [hs₈.1, hs₇.1, Heap.size_push]
    have hTI8 : IsTupOf2 h₈ TI (.ref i1) (.ref i2) := up _ _ S.TIz (hkk _ _ S.TIz S.TITO S.TIi1 S.TIi2 hTI)
    rw [hsz] at hT₈ hz8
    refine wpAny_pure ⟨_, rfl, ?_⟩
    show Q (.ref g2.objs.size) ⟨h₈, g, d, tk2, os⟩
    rw [hsz]
    exact hQ x1 x2 h₈ tk2 hx1 hx2 ⟨_, _, hz₈, .inr ⟨_, rfl⟩⟩ hTI8 ⟨_, _, up _ _ S.TOz hT2⟩ (D1.frame _ _ _ hj1 fun b hb o e => up b o (fun q => S.zf1 (q ▸ hb)) e) (D2.frame _ _ _ hj2 fun b hb o e => up b o (fun q => S.zf2 (q ▸ hb)) e) hT₈ hz8 fun c o cz cT c1 c2 e => up c o cz (hkk c o cz cT c1 c2 e)
  · replace hz1 : gg.get? z = some (zipO f0 g1 TI TO) := hz1
    replace hs1 : Heap.SameBut z hp gg := hs1
    simp only [Bool.false_eq_true, if_false]
    refine wpAny_bind ?_
    rw [← Array.forIn_toList]
    simp only [List.forIn_cons, List.forIn_nil]
    refine wpAny_bind (wpAny_bind (wpAny_holding ?_))
    show wpAny _ _ (Builtin.SmallTypes.nextOf (.ref i1) >>= _) _ _ ⟨gg, g, d, tk0, os⟩
    refine wpAny_bind (D1.item i _ _ _ hlt1 (D1.over st1 hs1 S.zf1) fun x1 p1 tk1 hx1 sn1 hp1 => wpAny_pure ?_)
    replace hp1 : Heap.SameBut i1 gg p1 := hp1
    refine wpAny_pure ?_
    refine wpAny_bind (wpAny_bind (wpAny_holding ?_))
    show wpAny _ _ (Builtin.SmallTypes.nextOf (.ref i2) >>= _) _ _ ⟨p1, g, d, tk1, os⟩
    refine wpAny_bind (D2.item i _ _ _ hlt2 (D2.over (D2.over st2 hs1 S.zf2) hp1 S.sep1_2) fun x2 p2 tk2 hx2 sn2 hp2 => wpAny_pure ?_)
    replace hp2 : Heap.SameBut i2 p1 p2 := hp2
    refine wpAny_pure (wpAny_pure ?_)
    show wpAny _ _ (newTuple [x1, x2] >>= _) _ _ ⟨p2, g, d, tk2, os⟩
    refine wpAny_bind (wpAny_newTuple ?_)
    have hsz : p2.objs.size = hp.objs.size := by rw [hp2.1, hp1.1, hs1.1]
    have hz₃ : p2.get? z = some (zipO f0 g1 TI TO) := hp2.extBut _ _ S.zi2 (hp1.extBut _ _ S.zi1 hz1)
    have hk : ∀ c o, c ≠ z → c ≠ i1 → c ≠ i2 → hp.get? c = some o → p2.get? c = some o := fun c o c1 c2 c3 e => hp2.extBut _ _ c3 (hp1.extBut _ _ c2 (hs1.extBut _ _ c1 e))
    have hj1 : St1 (i + 1) p2 := D1.over sn1 hp2 S.sep2_1
    refine wpAny_pure ⟨_, rfl, ?_⟩
    show Q (.ref p2.objs.size) ⟨p2.push { cls := .type "tuple", data := .seq #[x1, x2] }, g, d, tk2, os⟩
    have hpz : IsTupOf2 (p2.push { cls := .type "tuple", data := .seq #[x1, x2] }) p2.objs.size x1 x2 := Heap.get?_push_size _ rfl
    have hz4 : (p2.push { cls := .type "tuple", data := .seq #[x1, x2] }).objs.size = p2.objs.size + 1 := Heap.size_push ..
    have pu : ∀ c o, p2.get? c = some o → (p2.push { cls := .type "tuple", data := .seq #[x1, x2] }).get? c = some o := fun c o e => Heap.get?_push_of_some _ e
    rw [hsz] at hpz hz4 ⊢
    exact hQ x1 x2 _ tk2 hx1 hx2 ⟨_, _, pu _ _ hz₃, hf⟩ (pu _ _ (hk _ _ S.TIz S.TIi1 S.TIi2 hTI)) ⟨_, _, pu _ _ (hk _ _ S.TOz S.Ti1 S.Ti2 hTO)⟩ (D1.frame _ _ _ hj1 fun b _ o e => pu b o e) (D2.frame _ _ _ sn2 fun b _ o e => pu b o e) hpz hz4 fun c o cz _ c1 c2 e => pu c o (hk c o cz c1 c2 e)
theorem zipS_next_end {Q : Fin → Shared → Prop} (S : ZipSep2 z TI TO i1 i2 fp1 fp2) (D1 : Draws prog w A i1 fp1 n1 P1 St1) (D2 : Draws prog w A i2 fp2 n2 P2 St2)
    (hzs : ZSt s.heap z TI TO) (hTI : IsTupOf2 s.heap TI (.ref i1) (.ref i2)) (hTO : ∃ a1 a2, IsTupOf2 s.heap TO a1 a2) (st1 : St1 i s.heap) (st2 : St2 i s.heap) (hi1 : i = n1)
    (hE : ∀ h' tk e, (∀ c o, c ≠ z → c ≠ TO → c ≠ i1 → c ≠ i2 → s.heap.get? c = some o → h'.get? c = some o) → (∃ o, h'.get? e = some o ∧ o.cls = .type "StopIteration") → E (.ref e) { s with heap := h', toks := tk }) :
    wpAny (model prog w) A (Builtin.«zip.__next__» ⟨[.ref z], []⟩) Q E s := by
  obtain ⟨f0, f1, hz, hf⟩ := hzs
  obtain ⟨a1, a2, hTO⟩ := hTO
  obtain ⟨hp, g, d, tk0, os⟩ := s
  show wpAny _ _ (field (.ref z) 2 >>= _) _ _ _
  refine wpAny_bind (wpAny_field hz rfl (x := .bool false) rfl ?_)
  show wpAny _ _ (field (.ref z) 3 >>= _) _ _ _
  refine wpAny_bind (wpAny_field hz rfl (x := .ref TI) rfl ?_)
  refine wpAny_bind (wpAny_seqItems hTI rfl ?_)
  show wpAny _ _ (Builtin.SmallTypes.ownedTupleIsFree (.ref z) >>= _) _ _ _
  refine wpAny_bind (zip_free hz hf ?_ fun gg g1 hz1 hs1 => ?_)
  · simp only [if_true]
    refine wpAny_bind (wpAny_rule ?_)
    refine wpAny_bind (wpAny_field hz rfl (x := .ref TO) rfl ?_)
    refine wpAny_bind (wpAny_setField_rec hz (by simp) fun g0 hz0 hs0 => ?_)
    replace hz0 : g0.get? z = some (zipO .ellipsis f1 TI TO) := hz0
    replace hs0 : Heap.SameBut z hp g0 := hs0
    refine wpAny_bind ?_
    simp only [List.zipIdx_cons, List.zipIdx_nil, List.forIn_cons, List.forIn_nil]
    refine wpAny_bind (wpAny_bind (wpAny_onRaise ?_))
    show wpAny _ _ (Builtin.SmallTypes.nextOf (.ref i1) >>= _) _ _ ⟨g0, g, d, tk0, os⟩
    refine wpAny_bind (D1.done ⟨g0, g, d, tk0, os⟩ _ _ (by rw [← hi1]; exact (D1.over st1 hs0 S.zf1)) fun q e hq he => ?_)
    replace hq : Heap.ExtBut i1 g0 q := hq
    obtain ⟨oe, hoe, hce⟩ := he
    replace hoe : q.get? e = some oe := hoe
    have hzq : q.get? z = some (zipO .ellipsis f1 TI TO) := hq _ _ S.zi1 hz0
    have hez : e ≠ z := fun x => by subst x; rw [hzq] at hoe; cases hoe; simp at hce
    refine wpAny_setField_rec (s := ⟨q, g, d, tk0, os⟩) hzq (by simp) fun q' _ hq' => ?_
    replace hq' : Heap.SameBut z q q' := hq'
    exact hE q' tk0 e (fun c o cz cT c1 c2 x => hq'.extBut _ _ cz (hq _ _ c1 (hs0.extBut _ _ cz x))) ⟨oe, hq'.extBut _ _ hez hoe, hce⟩
  · replace hz1 : gg.get? z = some (zipO f0 g1 TI TO) := hz1
    replace hs1 : Heap.SameBut z hp gg := hs1
    simp only [Bool.false_eq_true, if_false]
    refine wpAny_bind ?_
    rw [← Array.forIn_toList]
    simp only [List.forIn_cons, List.forIn_nil]
    refine wpAny_bind (wpAny_bind (wpAny_holding ?_))
    show wpAny _ _ (Builtin.SmallTypes.nextOf (.ref i1) >>= _) _ _ ⟨gg, g, d, tk0, os⟩
    refine wpAny_bind (D1.done ⟨gg, g, d, tk0, os⟩ _ _ (by rw [← hi1]; exact (D1.over st1 hs1 S.zf1)) fun q e hq he => ?_)
    replace hq : Heap.ExtBut i1 gg q := hq
    exact hE q tk0 e (fun c o cz cT c1 c2 x => hq _ _ c1 (hs1.extBut _ _ cz x)) he
end
end PySem
end
section
set_option Elab.async false
set_option linter.all false
set_option maxRecDepth 100000
set_option maxHeartbeats 4000000
/-! K3: enumerate(zip(..)), dict(zip(..)). -/
namespace PySem
open Sem (wp)
open AutoSeq1 (wpAny_loadPart')
section
variable {prog : Program} {w : World} {A : Around} {E : Value → Shared → Prop} {s : Shared} {z TI TO i1 i2 e : Addr} {fp1 fp2 : List Addr} {n1 n2 i : Nat} {P1 P2 : Nat → Value → Prop} {St1 St2 : Nat → Heap → Prop} {old : Value}
/-- the cells of the zip, behind i turns -/
def ZGo (z TI TO i1 i2 : Addr) (St1 St2 : Nat → Heap → Prop) (i : Nat) (h : Heap) : Prop := ZSt h z TI TO ∧ IsTupOf2 h TI (.ref i1) (.ref i2) ∧ (∃ a1 a2, IsTupOf2 h TO a1 a2) ∧ St1 i h ∧ St2 i h
theorem ZSt.typeIs (h : ZSt s.heap z TI TO) : s.TypeIs (.ref z) "zip" := let ⟨_, _, q, _⟩ := h; ⟨_, q, rfl⟩
theorem nextOf_zipS {Q : Value → Shared → Prop} (S : ZipSep2 z TI TO i1 i2 fp1 fp2) (D1 : Draws prog w A.in1 i1 fp1 n1 P1 St1) (D2 : Draws prog w A.in1 i2 fp2 n2 P2 St2) (st : ZGo z TI TO i1 i2 St1 St2 i s.heap) (hlt1 : i < n1) (hlt2 : i < n2)
    (hQ : ∀ x1 x2 h' tk, P1 i x1 → P2 i x2 → ZGo z TI TO i1 i2 St1 St2 (i + 1) h' → IsTupOf2 h' s.heap.objs.size x1 x2 → h'.objs.size = s.heap.objs.size + 1 →
      (∀ c o, c ≠ z → c ≠ TO → c ≠ i1 → c ≠ i2 → s.heap.get? c = some o → h'.get? c = some o) → Q (.ref s.heap.objs.size) { s with heap := h', toks := tk }) :
    wpAny (model prog w) A (Builtin.SmallTypes.nextOf (.ref z)) Q E s := by
  obtain ⟨z1, z2, z3, z4, z5⟩ := st
  unfold Builtin.SmallTypes.nextOf
  exact wpAny_bind (wpAny_callSpecial?_slot (name := Str.ofString "__next__") z1.typeIs F.slot_zip_next
    (wpAny_call_entry F.slot_zip_next z1.typeIs F.entry_zip_next
      (zipS_next_item S D1 D2 z1 z2 z3 z4 z5 hlt1 hlt2 fun x1 x2 h' tk a b c d f g h j k l => wpAny_pure (hQ x1 x2 h' tk a b ⟨c, d, f, g, h⟩ j k l)) (F.args_zip_next_1 _)))
theorem pyNext_zipS {Q : Option Value → Shared → Prop} (S : ZipSep2 z TI TO i1 i2 fp1 fp2) (D1 : Draws prog w A.in1 i1 fp1 n1 P1 St1) (D2 : Draws prog w A.in1 i2 fp2 n2 P2 St2) (st : ZGo z TI TO i1 i2 St1 St2 i s.heap) (hlt1 : i < n1) (hlt2 : i < n2)
    (hQ : ∀ x1 x2 h' tk, P1 i x1 → P2 i x2 → ZGo z TI TO i1 i2 St1 St2 (i + 1) h' → IsTupOf2 h' s.heap.objs.size x1 x2 → h'.objs.size = s.heap.objs.size + 1 →
      (∀ c o, c ≠ z → c ≠ TO → c ≠ i1 → c ≠ i2 → s.heap.get? c = some o → h'.get? c = some o) → Q (some (.ref s.heap.objs.size)) { s with heap := h', toks := tk }) :
    wpAny (model prog w) A (pyNext (.ref z)) Q E s := by
  obtain ⟨z1, z2, z3, z4, z5⟩ := st
  unfold pyNext
  exact wpAny_bind (wpAny_attempt (wpAny_callSpecial?_slot (name := Str.ofString "__next__") z1.typeIs F.slot_zip_next
    (wpAny_call_entry F.slot_zip_next z1.typeIs F.entry_zip_next
      (zipS_next_item S D1 D2 z1 z2 z3 z4 z5 hlt1 hlt2 fun x1 x2 h' tk a b c d f g h j k l => wpAny_pure (hQ x1 x2 h' tk a b ⟨c, d, f, g, h⟩ j k l)) (F.args_zip_next_1 _))))
theorem pyNext_zipS_end {Q : Option Value → Shared → Prop} (S : ZipSep2 z TI TO i1 i2 fp1 fp2) (D1 : Draws prog w A.in1 i1 fp1 n1 P1 St1) (D2 : Draws prog w A.in1 i2 fp2 n2 P2 St2) (st : ZGo z TI TO i1 i2 St1 St2 i s.heap) (hi1 : i = n1)
    (hQ : ∀ h' tk, (∀ c o, c ≠ z → c ≠ TO → c ≠ i1 → c ≠ i2 → s.heap.get? c = some o → h'.get? c = some o) → Q none { s with heap := h', toks := tk }) :
    wpAny (model prog w) A (pyNext (.ref z)) Q E s := by
  obtain ⟨z1, z2, z3, z4, z5⟩ := st
  unfold pyNext
  refine wpAny_bind (wpAny_attempt (wpAny_callSpecial?_slot (name := Str.ofString "__next__") z1.typeIs F.slot_zip_next
    (wpAny_call_entry F.slot_zip_next z1.typeIs F.entry_zip_next (zipS_next_end S D1 D2 z1 z2 z3 z4 z5 hi1 fun h' tk e hk he => ?_) (F.args_zip_next_1 _))))
  obtain ⟨o, ho, hc⟩ := he
  refine wpAny_bind (wpAny_isInstance (T := "StopIteration") (b := true) ⟨o, ho, hc⟩ isSubtype_stop ?_)
  exact wpAny_pure (hQ _ _ hk)

theorem ZGo.frame (D1 : Draws prog w A i1 fp1 n1 P1 St1) (D2 : Draws prog w A i2 fp2 n2 P2 St2) {h h' : Heap} (st : ZGo z TI TO i1 i2 St1 St2 i h) (k : ∀ c o, (c = z ∨ c = TI ∨ c = TO ∨ c ∈ fp1 ∨ c ∈ fp2) → h.get? c = some o → h'.get? c = some o) : ZGo z TI TO i1 i2 St1 St2 i h' := by
  obtain ⟨⟨f0, f1, z1, zf⟩, z2, ⟨a1, a2, z3⟩, z4, z5⟩ := st
  exact ⟨⟨f0, f1, k _ _ (.inl rfl) z1, zf⟩, k _ _ (.inr (.inl rfl)) z2, ⟨a1, a2, k _ _ (.inr (.inr (.inl rfl))) z3⟩, D1.frame _ _ _ z4 fun b hb o q => k b o (.inr (.inr (.inr (.inl hb)))) q, D2.frame _ _ _ z5 fun b hb o q => k b o (.inr (.inr (.inr (.inr hb)))) q⟩

/-- enumerate's turn over a zip -/
theorem enum_next_zip {Q : Value → Shared → Prop} (S : ZipSep2 z TI TO i1 i2 fp1 fp2) (D1 : Draws prog w A.in1 i1 fp1 n1 P1 St1) (D2 : Draws prog w A.in1 i2 fp2 n2 P2 St2) (he : IsEnum s.heap e z ((i : Nat) : Int) old) (st : ZGo z TI TO i1 i2 St1 St2 i s.heap) (hlt1 : i < n1) (hlt2 : i < n2)
    (hez : e ≠ z) (heI : e ≠ TI) (heO : e ≠ TO) (he1 : e ∉ fp1) (he2 : e ∉ fp2)
    (hQ : ∀ x1 x2 h' tk, P1 i x1 → P2 i x2 → IsEnumOut h' e z ((i : Int) + 1) (.ref s.heap.objs.size) (s.heap.objs.size + 1) → ZGo z TI TO i1 i2 St1 St2 (i + 1) h' → IsTupOf2 h' s.heap.objs.size x1 x2 →
      h'.get? (s.heap.objs.size + 1) = some { cls := .type "tuple", data := .seq #[.int i tk, .ref s.heap.objs.size] } → h'.objs.size = s.heap.objs.size + 2 →
      (∀ c o, c ≠ e → c ≠ z → c ≠ TO → c ≠ i1 → c ≠ i2 → s.heap.get? c = some o → h'.get? c = some o) → Q (.ref (s.heap.objs.size + 1)) { s with heap := h', toks := tk + 1 }) :
    wpAny (model prog w) A (Builtin.«enumerate.__next__» ⟨[.ref e], []⟩) (fun fin s' => ∃ v, fin = .done (.ret v) ∧ Q v s') E s := by
  have hei1 : e ≠ i1 := fun q => he1 (q ▸ S.mem1)
  have hei2 : e ≠ i2 := fun q => he2 (q ▸ S.mem2)
  obtain ⟨hp, g, d, tk₀, os⟩ := s
  show wpAny _ _ (field (.ref e) 2 >>= _) _ _ _
  refine wpAny_bind (wpAny_field he rfl (x := .ref z) rfl ?_)
  refine wpAny_bind (nextOf_zipS S D1 D2 st hlt1 hlt2 fun x1 x2 h₁ tk hx1 hx2 st₁ hU hz₁ hk₁ => ?_)
  replace hz₁ : h₁.objs.size = hp.objs.size + 1 := hz₁
  replace hU : IsTupOf2 h₁ hp.objs.size x1 x2 := hU
  have hel : e < hp.objs.size := Heap.lt_size he
  have he₁ : IsEnum h₁ e z i old := hk₁ _ _ hez heO hei1 hei2 he
  show wpAny _ _ (field (.ref e) 3 >>= _) _ _ ⟨h₁, g, d, tk, os⟩
  refine wpAny_bind (wpAny_field he₁ rfl (x := rawInt i) rfl ?_)
  show wpAny _ _ (field (.ref e) 4 >>= _) _ _ ⟨h₁, g, d, tk, os⟩
  refine wpAny_bind (wpAny_field he₁ rfl (x := .none) rfl ?_)
  show wpAny _ _ (mkInt i >>= _) _ _ ⟨h₁, g, d, tk, os⟩
  refine wpAny_bind (wpAny_mkInt ?_)
  show wpAny _ _ (setField (.ref e) 3 (rawInt ((i : Int) + 1)) >>= _) _ _ ⟨h₁, g, d, tk + 1, os⟩
  refine wpAny_bind (wpAny_setField_rec he₁ (by simp) fun h₂ he₂ hs₂ => ?_)
  replace hs₂ : Heap.SameBut e h₁ h₂ := hs₂
  replace he₂ : IsEnum h₂ e z ((i : Int) + 1) old := he₂
  show wpAny _ _ (setField (.ref e) 4 .none >>= _) _ _ ⟨h₂, g, d, tk + 1, os⟩
  refine wpAny_bind (wpAny_setField_rec he₂ (by simp) fun h₃ he₃ hs₃ => ?_)
  replace hs₃ : Heap.SameBut e h₂ h₃ := hs₃
  replace he₃ : IsEnum h₃ e z ((i : Int) + 1) old := he₃
  show wpAny _ _ (newTuple [.int i tk, .ref hp.objs.size] >>= _) _ _ ⟨h₃, g, d, tk + 1, os⟩
  refine wpAny_bind (wpAny_newTuple ?_)
  have he₄ : IsEnum (h₃.push { cls := .type "tuple", data := .seq #[.int i tk, .ref hp.objs.size] }) e z ((i : Int) + 1) old := Heap.get?_push_of_some _ he₃
  generalize hh₄ : h₃.push { cls := .type "tuple", data := .seq #[.int i tk, .ref hp.objs.size] } = h₄ at he₄
  have hsz : h₃.objs.size = hp.objs.size + 1 := by rw [hs₃.1, hs₂.1, hz₁]
  have ht₄ : h₄.get? (hp.objs.size + 1) = some { cls := .type "tuple", data := .seq #[.int i tk, .ref hp.objs.size] } := by rw [← hh₄, ← hsz]; exact Heap.get?_push_size _ rfl
  have hz₄ : h₄.objs.size = hp.objs.size + 2 := by rw [← hh₄, Heap.size_push, hsz]
  have up₄ : ∀ b o, b ≠ e → h₁.get? b = some o → h₄.get? b = some o := fun b o hbe hb => by
    rw [← hh₄]; exact Heap.get?_push_of_some _ (hs₃.extBut b o hbe (hs₂.extBut b o hbe hb))
  show wpAny _ _ (Builtin.SmallTypes.ownedTupleIsFree (.ref e) >>= _) _ _ ⟨h₄, g, d, tk + 1, os⟩
  rw [hsz]
  clear hh₄ he₃ hs₃ he₂ hs₂ hsz h₃ h₂
  refine wpAny_bind ?_
  · unfold Builtin.SmallTypes.ownedTupleIsFree
    refine wpAny_bind (wpAny_field he₄ rfl (x := .none) rfl (wpAny_pure ?_))
    simp only [if_true]
    refine wpAny_bind (wpAny_rule ?_)
    refine wpAny_bind (wpAny_field he₄ rfl (x := old) rfl ?_)
    refine wpAny_bind (wpAny_setField_rec he₄ (by simp) fun h₅ he₅ hs₅ => ?_)
    replace hs₅ : Heap.SameBut e h₄ h₅ := hs₅
    replace he₅ : IsEnum h₅ e z ((i : Int) + 1) (.ref hp.objs.size) := he₅
    show wpAny _ _ (Builtin.SmallTypes.ownedTupleHandOut (.ref e) (.ref (hp.objs.size + 1)) >>= _) _ _ ⟨h₅, g, d, tk + 1, os⟩
    refine wpAny_bind ?_
    · unfold Builtin.SmallTypes.ownedTupleHandOut
      refine wpAny_bind (wpAny_setField_rec he₅ (by simp) fun h₆ he₆ hs₆ => ?_)
      replace hs₆ : Heap.SameBut e h₅ h₆ := hs₆
      replace he₆ : IsEnumOut h₆ e z ((i : Int) + 1) (.ref hp.objs.size) (hp.objs.size + 1) := he₆
      refine wpAny_setField_rec he₆ (by simp) fun h₇ he₇ hs₇ => ?_
      replace hs₇ : Heap.SameBut e h₆ h₇ := hs₇
      replace he₇ : IsEnumOut h₇ e z ((i : Int) + 1) (.ref hp.objs.size) (hp.objs.size + 1) := he₇
      have up : ∀ b o, b ≠ e → h₄.get? b = some o → h₇.get? b = some o := fun b o hbe y => hs₇.extBut b o hbe (hs₆.extBut b o hbe (hs₅.extBut b o hbe y))
      refine wpAny_bind (wpAny_letGo (wpAny_pure ⟨_, rfl, hQ x1 x2 h₇ tk hx1 hx2 he₇ ?_ ?_ ?_ ?_ ?_⟩))
      · refine st₁.frame D1 D2 fun c o hc q => ?_
        have hce : c ≠ e := by
          rintro rfl
          rcases hc with r | r | r | r | r
          · exact hez r
          · exact heI r
          · exact heO r
          · exact he1 r
          · exact he2 r
        exact up _ _ hce (up₄ _ _ hce q)
      · exact up _ _ (Nat.ne_of_gt hel) (up₄ _ _ (Nat.ne_of_gt hel) hU)
      · exact up _ _ (Nat.ne_of_gt (Nat.lt_succ_of_lt hel)) ht₄
      · rw [hs₇.1, hs₆.1, hs₅.1, hz₄]
      · exact fun c o c0 c1 c2 c3 c4 q => up _ _ c0 (up₄ _ _ c0 (hk₁ _ _ c1 c2 c3 c4 q))
theorem pyNext_enum_zip {Q : Option Value → Shared → Prop} (S : ZipSep2 z TI TO i1 i2 fp1 fp2) (D1 : Draws prog w A.in1.in1 i1 fp1 n1 P1 St1) (D2 : Draws prog w A.in1.in1 i2 fp2 n2 P2 St2) (he : IsEnum s.heap e z ((i : Nat) : Int) old) (st : ZGo z TI TO i1 i2 St1 St2 i s.heap) (hlt1 : i < n1) (hlt2 : i < n2)
    (hez : e ≠ z) (heI : e ≠ TI) (heO : e ≠ TO) (he1 : e ∉ fp1) (he2 : e ∉ fp2)
    (hQ : ∀ x1 x2 h' tk, P1 i x1 → P2 i x2 → IsEnumOut h' e z ((i : Int) + 1) (.ref s.heap.objs.size) (s.heap.objs.size + 1) → ZGo z TI TO i1 i2 St1 St2 (i + 1) h' → IsTupOf2 h' s.heap.objs.size x1 x2 →
      h'.get? (s.heap.objs.size + 1) = some { cls := .type "tuple", data := .seq #[.int i tk, .ref s.heap.objs.size] } → h'.objs.size = s.heap.objs.size + 2 →
      (∀ c o, c ≠ e → c ≠ z → c ≠ TO → c ≠ i1 → c ≠ i2 → s.heap.get? c = some o → h'.get? c = some o) → Q (some (.ref (s.heap.objs.size + 1))) { s with heap := h', toks := tk + 1 }) :
    wpAny (model prog w) A (pyNext (.ref e)) Q E s := by
  have hT : s.TypeIs (.ref e) "enumerate" := ⟨_, he, rfl⟩
  unfold pyNext
  exact wpAny_bind (wpAny_attempt (wpAny_callSpecial?_slot (name := Str.ofString "__next__") hT F.slot_enumerate_next
    (wpAny_call_entry F.slot_enumerate_next hT F.entry_enumerate_next
      (enum_next_zip S D1 D2 he st hlt1 hlt2 hez heI heO he1 he2 fun x1 x2 h' tk a b c d f k q r => wpAny_pure (hQ x1 x2 h' tk a b c d f k q r)) (F.args_enumerate_next_1 _))))
theorem pyNext_enum_zip_end {Q : Option Value → Shared → Prop} (S : ZipSep2 z TI TO i1 i2 fp1 fp2) (D1 : Draws prog w A.in1.in1 i1 fp1 n1 P1 St1) (D2 : Draws prog w A.in1.in1 i2 fp2 n2 P2 St2) {c : Int} (he : IsEnum s.heap e z c old) (st : ZGo z TI TO i1 i2 St1 St2 i s.heap) (hi1 : i = n1)
    (hQ : ∀ h' tk, (∀ c o, c ≠ z → c ≠ TO → c ≠ i1 → c ≠ i2 → s.heap.get? c = some o → h'.get? c = some o) → Q none { s with heap := h', toks := tk }) : wpAny (model prog w) A (pyNext (.ref e)) Q E s := by
  obtain ⟨z1, z2, z3, z4, z5⟩ := st
  have hT : s.TypeIs (.ref e) "enumerate" := ⟨_, he, rfl⟩
  unfold pyNext
  refine wpAny_bind (wpAny_attempt (wpAny_callSpecial?_slot (name := Str.ofString "__next__") hT F.slot_enumerate_next
    (wpAny_call_entry F.slot_enumerate_next hT F.entry_enumerate_next ?_ (F.args_enumerate_next_1 _))))
  show wpAny _ _ (field (.ref e) 2 >>= _) _ _ _
  refine wpAny_bind (wpAny_field he rfl (x := .ref z) rfl ?_)
  unfold Builtin.SmallTypes.nextOf
  refine wpAny_bind (wpAny_bind (wpAny_callSpecial?_slot (name := Str.ofString "__next__") z1.typeIs F.slot_zip_next
    (wpAny_call_entry F.slot_zip_next z1.typeIs F.entry_zip_next (zipS_next_end S D1 D2 z1 z2 z3 z4 z5 hi1 fun h' tk x hk hx => ?_) (F.args_zip_next_1 _))))
  obtain ⟨o, ho, hc⟩ := hx
  refine wpAny_bind (wpAny_isInstance (T := "StopIteration") (b := true) ⟨o, ho, hc⟩ isSubtype_stop ?_)
  exact wpAny_pure (hQ _ _ hk)
end
/-! ### enumerate(a zip), made -/
theorem meets_enumerate_newZ (z TI TO : Addr) :
    Meets (Builtin.«enumerate.__new__» ⟨[.type "enumerate", .ref z], []⟩) (fun _ R s => IsZip s.heap z TI TO .none ∧
      R (.ok (.ret (.ref s.heap.objs.size)))
        { s with heap := s.heap.push { cls := .type "enumerate", data := .fields #[.none, .bool false, .ref z, rawInt 0, .none, .none] } }) :=
  .of_wp fun prog w A R s h => by
    obtain ⟨hp, g, d, tk, os⟩ := s; obtain ⟨hl, h⟩ := h
    have hsub := sub_enumerate
    wp_walk using wpAny_loadPart' hl
    refine wpAny_stack_any fun st => wpAny_pure ?_
    split
    · rename_i c _ _ _ _ _
      cases (c == Value.type "enumerate")
      · wp_walk using wpAny_loadPart' hl, wpAny_pyIter_zip hl
        exact ⟨_, rfl, h⟩
      · wp_walk using wpAny_loadPart' hl, wpAny_pyIter_zip hl
        exact ⟨_, rfl, h⟩
    · wp_walk using wpAny_loadPart' hl, wpAny_pyIter_zip hl
      exact ⟨_, rfl, h⟩
theorem call_enumerate_zip {prog : Program} {w : World} {A : Around} {E : Value → Shared → Prop} {s : Shared} {z TI TO : Addr} {Q : Value → Shared → Prop} (hz : IsZip s.heap z TI TO .none)
    (h : ∀ h', IsEnum h' s.heap.objs.size z 0 .none → h'.objs.size = s.heap.objs.size + 1 → (∀ b o, s.heap.get? b = some o → h'.get? b = some o) → Q (.ref s.heap.objs.size) { s with heap := h' }) :
    wpAny (model prog w) A (call (.type "enumerate") [.ref z]) Q E s := by
  refine callType_new F.called_enumerate (by decide) (F.typeCall_enumerate_1 _) (F.newCall_enumerate_1 _) (fun obj => F.args_object_init_2 obj _) F.entry_enumerate_new
    (meets_enumerate_newZ z TI TO) ⟨hz, ?_⟩
  have he : IsEnum (s.heap.push { cls := .type "enumerate", data := .fields #[.none, .bool false, .ref z, rawInt 0, .none, .none] }) s.heap.objs.size z 0 .none := Heap.get?_push_size s.heap (o := { cls := .type "enumerate", data := .fields #[.none, .bool false, .ref z, rawInt 0, .none, .none] }) rfl
  exact ⟨⟨_, he, rfl⟩, h _ he (Heap.size_push ..) fun b o x => Heap.get?_push_of_some _ x⟩

/-! ### a zip of any two, as dict's argument -/
theorem PairArg.zipS {prog : Program} {w : World} {z TI TO i1 i2 : Addr} {fp1 fp2 : List Addr} {n : Nat} {P1 P2 : Nat → Value → Prop} {St1 St2 : Nat → Heap → Prop} (S : ZipSep2 z TI TO i1 i2 fp1 fp2)
    (D1 : ∀ A : Around, A.handled = none → Draws prog w A i1 fp1 n P1 St1) (D2 : ∀ A : Around, A.handled = none → Draws prog w A i2 fp2 n P2 St2) (lv1 : ∀ i h, St1 i h → ∀ b ∈ fp1, ∃ o, h.get? b = some o) (lv2 : ∀ i h, St2 i h → ∀ b ∈ fp2, ∃ o, h.get? b = some o) :
    PairArg prog w "zip" z (z :: TI :: TO :: (fp1 ++ fp2)) [z, TO, i1, i2] n (fun i k v => P1 i k ∧ P2 i v) (fun h => IsZip h z TI TO .none ∧ ZGo z TI TO i1 i2 St1 St2 0 h) where
  type := fun s ok => ⟨_, ok.1, rfl⟩
  notDict := by decide
  keep := fun h h' ok hk => ⟨hk _ _ ok.1, ok.2.frame (D1 ({} : Around) rfl) (D2 ({} : Around) rfl) fun c o _ q => hk c o q⟩
  there := fun h ok b hb => by
    obtain ⟨hz, ⟨_, z2, ⟨a1, a2, z3⟩, z4, z5⟩⟩ := ok
    rcases List.mem_cons.mp hb with rfl | hb
    · exact ⟨_, hz⟩
    rcases List.mem_cons.mp hb with rfl | hb
    · exact ⟨_, z2⟩
    rcases List.mem_cons.mp hb with rfl | hb
    · exact ⟨_, z3⟩
    rcases List.mem_append.mp hb with hb | hb
    · exact lv1 _ _ z4 b hb
    · exact lv2 _ _ z5 b hb
  sub := fun b hb => by
    have e : b = z ∨ b = TO ∨ b = i1 ∨ b = i2 := by simpa using hb
    rcases e with rfl | rfl | rfl | rfl
    · simp
    · simp
    · exact List.mem_cons_of_mem _ (List.mem_cons_of_mem _ (List.mem_cons_of_mem _ (List.mem_append_left _ S.mem1)))
    · exact List.mem_cons_of_mem _ (List.mem_cons_of_mem _ (List.mem_cons_of_mem _ (List.mem_append_right _ S.mem2)))
  noKeys := fun A s Q E hA ok h => getAttrOr_miss_zip ok.1 rfl rfl rfl zip_no_keys (by decide +kernel) hA h
  iter := fun A s d Q E hA ok hd hdf h => by
    obtain ⟨hz, zg⟩ := ok
    have dn : ∀ c, (c = z ∨ c = TI ∨ c = TO ∨ c ∈ fp1 ∨ c ∈ fp2) → c ≠ d := fun c hc q => by
      subst q
      refine hdf ?_
      rcases hc with rfl | rfl | rfl | hc | hc
      · simp
      · simp
      · simp
      · exact List.mem_cons_of_mem _ (List.mem_cons_of_mem _ (List.mem_cons_of_mem _ (List.mem_append_left _ hc)))
      · exact List.mem_cons_of_mem _ (List.mem_cons_of_mem _ (List.mem_cons_of_mem _ (List.mem_append_right _ hc)))
    refine wpAny_pyIter_zip hz (h z [z, TO, i1, i2] (ZGo z TI TO i1 i2 St1 St2) s.heap s.toks ?_ zg (fun _ _ e => e) fun b hb => .inl hb)
    exact {
      off := fun hm => by
        have e : d = z ∨ d = TO ∨ d = i1 ∨ d = i2 := by simpa using hm
        rcases e with e | e | e | e
        · exact dn z (.inl rfl) e.symm
        · exact dn TO (.inr (.inr (.inl rfl))) e.symm
        · exact dn i1 (.inr (.inr (.inr (.inl S.mem1)))) e.symm
        · exact dn i2 (.inr (.inr (.inr (.inr S.mem2)))) e.symm
      frame := fun i h₁ h₂ st hk => st.frame (D1 A hA) (D2 A hA) fun c o hc q => hk c o (dn c hc) q
      item := fun i s₁ Q₁ E₁ hi st hds hQ => by
        refine pyNext_zipS S (D1 A.in1 hA) (D2 A.in1 hA) st hi hi fun x1 x2 h' tk a b c dd f g => ?_
        exact hQ s₁.heap.objs.size _ _ h' tk ⟨a, b⟩ (.inl ⟨_, dd, rfl, _, rfl⟩) c fun c o hc e => g c o (fun x => hc (by simp [x])) (fun x => hc (by simp [x])) (fun x => hc (by simp [x])) (fun x => hc (by simp [x])) e
      done := fun s₁ Q₁ E₁ st hQ => by
        exact pyNext_zipS_end S (D1 A.in1 hA) (D2 A.in1 hA) st rfl fun h' tk g => hQ h' tk fun c o hc e => g c o (fun x => hc (by simp [x])) (fun x => hc (by simp [x])) (fun x => hc (by simp [x])) (fun x => hc (by simp [x])) e }
end PySem
end
section
set_option Elab.async false
set_option linter.all false
set_option maxRecDepth 100000
set_option maxHeartbeats 4000000
/-! K4: the layer's rules for enumerate(zip(..)), enumerate(a list or tuple), dict(zip(..)). -/
namespace PySem
open Sem (wp)
open AutoSeq1 (wpAny_loadPart')
theorem meets_enumerate_newB1 {v : Value} {o : Obj} {H : Heap → Prop} (B : Begins v o H) :
    Meets (Builtin.«enumerate.__new__» ⟨[.type "enumerate", v], []⟩) (fun _ R s => H s.heap ∧
      R (.ok (.ret (.ref (s.heap.push o).objs.size))) { s with heap := (s.heap.push o).push { cls := .type "enumerate", data := .fields #[.none, .bool false, .ref s.heap.objs.size, rawInt 0, .none, .none] } }) :=
  .of_wp fun prog w A R s h => by
    obtain ⟨hp, g, d, tk, os⟩ := s; obtain ⟨h1, h⟩ := h
    have hsub := sub_enumerate
    have q1 : ∀ {A' : Around} {E : Value → Shared → Prop} {Q : Value → Shared → Prop}, Q (.ref hp.objs.size) ⟨(hp.push o), g, d, tk, os⟩ → wpAny (model prog w) A' (pyIter v) Q E ⟨hp, g, d, tk, os⟩ :=
      fun q => B.iter prog w _ _ ⟨hp, g, d, tk, os⟩ _ h1 q
    wp_walk
    refine wpAny_stack_any fun st => wpAny_pure ?_
    split
    · rename_i c _ _ _ _ _
      cases (c == Value.type "enumerate")
      · wp_walk using q1
        exact ⟨_, rfl, h⟩
      · wp_walk using q1
        exact ⟨_, rfl, h⟩
    · wp_walk using q1
      exact ⟨_, rfl, h⟩
theorem call_enumerate_B {prog : Program} {w : World} {A : Around} {E : Value → Shared → Prop} {s : Shared} {v : Value} {o : Obj} {H : Heap → Prop} {Q : Value → Shared → Prop} (B : Begins v o H) (h1 : H s.heap)
    (h : ∀ h', IsEnum h' (s.heap.objs.size + 1) s.heap.objs.size 0 .none → h'.get? s.heap.objs.size = some o → h'.objs.size = s.heap.objs.size + 2 →
      (∀ b o, s.heap.get? b = some o → h'.get? b = some o) → Q (.ref (s.heap.objs.size + 1)) { s with heap := h' }) :
    wpAny (model prog w) A (call (.type "enumerate") [v]) Q E s := by
  refine callType_new F.called_enumerate (by decide) (F.typeCall_enumerate_1 _) (F.newCall_enumerate_1 _) (fun obj => F.args_object_init_2 obj _) F.entry_enumerate_new
    (meets_enumerate_newB1 B) ⟨h1, ?_⟩
  have hz : (s.heap.push o).objs.size = s.heap.objs.size + 1 := Heap.size_push ..
  show _ ∧ _
  rw [hz]
  have he : IsEnum ((s.heap.push o).push { cls := .type "enumerate", data := .fields #[.none, .bool false, .ref s.heap.objs.size, rawInt 0, .none, .none] }) (s.heap.objs.size + 1) s.heap.objs.size 0 .none := by
    have := Heap.get?_push_size (s.heap.push o) (o := { cls := .type "enumerate", data := .fields #[.none, .bool false, .ref s.heap.objs.size, rawInt 0, .none, .none] }) rfl
    rw [hz] at this; exact this
  exact ⟨⟨_, he, rfl⟩, h _ he (Heap.get?_push_of_some _ (Heap.get?_push_size _ B.free)) (by rw [Heap.size_push, hz]) fun b o x => Heap.get?_push_of_some _ (Heap.get?_push_of_some _ x)⟩
theorem nat_new (n a b : Nat) (h1 : a < n) (h2 : b < n) : (n + 5 ≠ n + 4 ∧ n + 5 ≠ n + 2 ∧ n + 5 ≠ n + 3 ∧ n + 5 ≠ n ∧ n + 5 ≠ a ∧ n + 5 ≠ n + 1 ∧ n + 5 ≠ b ∧ a ≠ n ∧ b ≠ n + 1) := by
  refine ⟨?_, ?_, ?_, ?_, ?_, ?_, ?_, ?_, ?_⟩ <;> omega
theorem sep_new (n a b : Nat) (la : a < n) (lb : b < n) : ZipSep2 (n + 4) (n + 2) (n + 3) n (n + 1) [n, a] [n + 1, b] := by
  have nm : ∀ x y c : Nat, x ≠ y → x ≠ c → x ∉ ([y, c] : List Addr) := fun x y c h1 h2 h => by
    rcases List.mem_cons.mp h with e | h
    · exact h1 e
    · exact h2 (List.mem_singleton.mp h)
  exact {
    TIz := (by omega : n + 2 ≠ n + 4)
    TOz := (by omega : n + 3 ≠ n + 4)
    TITO := (by omega : n + 2 ≠ n + 3)
    TIi1 := (by omega : n + 2 ≠ n)
    mem1 := by simp
    zf1 := nm _ _ _ (by omega) (by omega)
    Tf1 := nm _ _ _ (by omega) (by omega)
    TIi2 := (by omega : n + 2 ≠ n + 1)
    mem2 := by simp
    zf2 := nm _ _ _ (by omega) (by omega)
    Tf2 := nm _ _ _ (by omega) (by omega)
    sep1_2 := nm _ _ _ (by omega) (by omega)
    sep2_1 := nm _ _ _ (by omega) (by omega) }
end PySem

namespace L2
open PySem PySem.Spec PyProof.Rows
/-! ### enumerate(a tuple) -/
def IteT (K : PySem.W.Frag) (a : Addr) : It :=
  ⟨fun i H => ∃ (xs : List V) (x : V), SqT K H a xs ∧ xs[i]? = some x, fun i H v H' => ∃ T x, v = .ref T ∧ H T = none ∧ H' = upd H T (.tup [.int (i : Nat), x]) ∧ ∀ xs, SqT K H a xs → xs[i]? = some x, fun i H => ∃ xs : List V, SqT K H a xs ∧ xs.length = i⟩
theorem turn_enumT {P : Program} {w : World} {K : PySem.W.Frag} {elts : List Expr} {kk : Nat} {tpos : Pos} (a e it : Addr) :
    Turn P w K (.Tuple elts kk tpos) (IteT K a) [e, it] e (fun i h => (∃ old, IsEnum h e it ((i : Nat) : Int) old) ∧ h.IsTupleIter it a i ∧ e ≠ it ∧ a ≠ it ∧ a ≠ e) where
  mem := by simp
  obj := fun i h st b hb => by
    obtain ⟨⟨old, he⟩, ⟨o, ho, hc, hd⟩, _⟩ := st
    have e' : b = e ∨ b = it := by simpa using hb
    rcases e' with z | z
    · rw [z]; exact ⟨_, he, fun v q => nomatch q⟩
    · rw [z]; exact ⟨o, ho, fun v q => by rw [hd] at q; cases q⟩
  keep := fun i h h' st k => let ⟨⟨old, he⟩, hi, hne⟩ := st; ⟨⟨old, k e (by simp) _ he⟩, hi.at fun o q => k it (by simp) o q, hne⟩
  item := by
    intro X hP hw hK hc i pins s σ H E I hf st hg
    subst hP hw hK
    obtain ⟨⟨old, he⟩, hit, hne, ha1, ha2⟩ := st
    obtain ⟨xs, x, hq, hx⟩ := hg
    obtain ⟨its, rv, p, hz⟩ := I.tuple hq
    obtain ⟨u, hu, ru⟩ := rv.get hx
    have hel : e < s.heap.objs.size := Heap.lt_size he
    have hil : it < s.heap.objs.size := by obtain ⟨_, q, _⟩ := hit; exact Heap.lt_size q
    have hii : i < its.toArray.size := by
      have := (List.getElem?_eq_some_iff.mp hu).1
      simpa using this
    refine wpAny_pyNext_enum_itemD (Draws.tuple (A := X.A.in1) (I.ok.hd hc) it a ha1 its.toArray) he ⟨hit, p⟩ hii hne (by simp [hne, Ne.symm ha2]) fun y h' tk hy ho hst hT hsz hk => ?_
    have hy' : its.toArray[i]? = some y := hy
    have ey : y = u := by
      have e2 : its[i]? = some y := by simpa using hy'
      rw [hu] at e2; exact (Option.some.inj e2).symm
    subst ey
    refine ⟨_, rfl, wpAny_letOwnedTupleGo_enum (s := { s with heap := h', toks := tk + 1 }) ho fun h'' he' sb => ?_⟩
    have hT2 : h''.get? s.heap.objs.size = some { cls := .type "tuple", data := .seq #[.int i tk, y] } := (sb.2 _ (Nat.ne_of_gt hel)).trans hT
    have new : ObjOk X.prog X.w (upd H s.heap.objs.size (.tup [.int (i : Nat), x])) h'' s.heap.objs.size (.tup [.int (i : Nat), x]) :=
      ⟨by show 2 ≤ sizeLine; decide, [.int i tk, y], .cons ⟨_, rfl⟩ (.cons ru .nil), ⟨_, hT2, rfl, _, rfl⟩⟩
    have I1 : Inv X pins σ (upd H s.heap.objs.size (.tup [.int (i : Nat), x])) { s with heap := h'', toks := tk + 1 } :=
      I.turnedNew (t' := tk + 1) (ch := [e, it]) (fun b ob hb q => (sb.2 b (fun z => hb (by simp [z]))).trans (hk b ob (fun z => hb (by simp [z])) (fun z => hb (by simp [z])) q)) hf (Nat.le_refl _) new
    refine ⟨.ref s.heap.objs.size, _, I1, rfl, ⟨_, x, rfl, I.hok.fresh (Nat.le_refl _), rfl, fun ys hy => ?_⟩, ⟨⟨y, ?_⟩, hst.1.at fun o q => (sb.2 it (Ne.symm hne)).trans q, hne, ha1, ha2⟩, fun b hb => ?_⟩
    · have := I.tuple_inj hy hq
      rw [this]; exact hx
    · have e1 : ((i + 1 : Nat) : Int) = (i : Int) + 1 := by omega
      rw [e1]; exact he'
    · have hb' : b < s.heap.objs.size := by
        have e' : b = e ∨ b = it := by simpa using hb
        rcases e' with z | z
        · rw [z]; exact hel
        · rw [z]; exact hil
      rw [upd_ne (Nat.ne_of_lt hb')]
      exact (hf b hb).1
  done := by
    intro X hP hw hK hc i pins s σ H E I hf st hg
    subst hP hw hK
    obtain ⟨⟨old, he⟩, hit, hne, ha1, ha2⟩ := st
    obtain ⟨xs, hq, hx⟩ := hg
    obtain ⟨its, rv, p, hz⟩ := I.tuple hq
    obtain ⟨f0, f1, f2, f3, f4, f5⟩ := hf it (by simp)
    have hl := rv.length
    have hi : i = its.toArray.size := by simp; omega
    subst hi
    exact wpAny_pyNext_enum_endD (Draws.tuple (A := X.A.in1) (I.ok.hd hc) it a ha1 its.toArray) he ⟨hit, p⟩ fun h' eb => ⟨rfl, I.turned (t' := s.toks) (fun b o hb q => eb b o hb q) f0 f1 f3 f4 f5⟩
  self := fun A i s Q E st h => let ⟨⟨_, he⟩, _⟩ := st; wpAny_pyIter_enum he h
/-- enumerate(v), v a list or a tuple -/
def iEnumA (K : PySem.W.Frag) (ta : TA) : TI := fun σ H R => ta σ H fun vs H1 => ∃ a xs, vs = [.ref a] ∧ ((SqL K H1 a xs ∧ R (Ite K a) H1) ∨ (SqT K H1 a xs ∧ R (IteT K a) H1))
theorem pi_enumA {X : Cx} {e : Expr} {ta : TA} {p pos tpos : Pos} {elts : List Expr} {kk : Nat} (hg : Gl X "enumerate") (hm : X.mg "enumerate" = none) (ha : PA X [e] ta) (hs : starEach [e] X.env = [(false, eval e X.env)] := by rfl) :
    PI X (.Tuple elts kk tpos) (.Call (.Name "enumerate" p) [e] [] pos) (iEnumA X.K ta) := by
  refine ⟨fun pins s σ H R I h => ?_⟩
  refine Call_ (ld_blt I hg hm boot_enumerate (PyProof.Rows.callWith_type1 (thn (ha.run pos pins s σ H _ I h) fun us s1 ⟨vs, H1, I1, r1, q1⟩ => ?_) hs rfl))
  obtain ⟨a, xs, ex, q⟩ := q1
  subst ex
  cases r1 with
  | cons r rr =>
    cases rr
    cases r
    have fin : ∀ b, (b = s1.heap.objs.size + 1 ∨ b = s1.heap.objs.size) → FpOk X pins H1 b := fun b e' => by
      have hle : s1.heap.objs.size ≤ b := by
        rcases e' with z | z
        · rw [z]; exact Nat.le_add_right _ _
        · rw [z]; exact Nat.le_refl _
      exact I1.fpOk hle (I1.hok.fresh hle)
    rcases q with ⟨hq, q⟩ | ⟨hq, q⟩
    · obtain ⟨its, rv, p', hz⟩ := I1.list hq
      refine call_enumerate_list p'.isList fun h' he hit hsz hk => wpAny_pyIter_enum he ?_
      have I2 : Inv X pins σ H1 { s1 with heap := h' } := I1.kept (t' := s1.toks) hk
      exact ⟨s1.heap.objs.size + 1, [s1.heap.objs.size + 1, s1.heap.objs.size], _, _, H1, rfl, I2, turn_enum a (s1.heap.objs.size + 1) s1.heap.objs.size, ⟨⟨.none, he⟩, hit, Nat.succ_ne_self _⟩, fun b hb => fin b (by simpa using hb), q⟩
    · obtain ⟨its, rv, p', hz⟩ := I1.tuple hq
      have la : a < s1.heap.objs.size := p'.lt
      refine call_enumerate_B (begins_tuple a its.toArray) p' fun h' he hit hsz hk => wpAny_pyIter_enum he ?_
      have I2 : Inv X pins σ H1 { s1 with heap := h' } := I1.kept (t' := s1.toks) hk
      exact ⟨s1.heap.objs.size + 1, [s1.heap.objs.size + 1, s1.heap.objs.size], _, _, H1, rfl, I2, turn_enumT a (s1.heap.objs.size + 1) s1.heap.objs.size, ⟨⟨.none, he⟩, ⟨_, hit, rfl, rfl⟩, Nat.succ_ne_self _, Nat.ne_of_lt la, Nat.ne_of_lt (Nat.lt_succ_of_lt la)⟩, fun b hb => fin b (by simpa using hb), q⟩

/-! ### enumerate(zip(xs, ys)) -/
def Itez (K : PySem.W.Frag) (a b : Addr) : It :=
  ⟨fun i H => ∃ (xs ys : List V) (x y : V), SqL K H a xs ∧ SqL K H b ys ∧ xs[i]? = some x ∧ ys[i]? = some y,
    fun i H v H' => ∃ T U x y, v = .ref T ∧ H U = none ∧ upd H U (.tup [x, y]) T = none ∧ H' = upd (upd H U (.tup [x, y])) T (.tup [.int (i : Nat), .ref U]) ∧ (∀ xs, SqL K H a xs → xs[i]? = some x) ∧ ∀ ys, SqL K H b ys → ys[i]? = some y,
    fun i H => ∃ xs ys : List V, SqL K H a xs ∧ SqL K H b ys ∧ xs.length = i⟩
theorem Inv.turnedNew2 {X : Cx} {pins : List (Addr × Obj)} {σ : St} {H : Hp} {s : Shared} {h' : Heap} {t' : Nat} {ch : List Addr} {T U : Addr} {ob ob2 : HO} (I : Inv X pins σ H s) (k : ∀ b o, b ∉ ch → s.heap.get? b = some o → h'.get? b = some o) (hf : ∀ b ∈ ch, FpOk X pins H b) (hU : s.heap.objs.size ≤ U) (hT : s.heap.objs.size ≤ T) (hTU : T ≠ U)
    (new1 : ObjOk X.prog X.w (upd (upd H U ob) T ob2) h' U ob) (new2 : ObjOk X.prog X.w (upd (upd H U ob) T ob2) h' T ob2) : Inv X pins σ (upd (upd H U ob) T ob2) { s with heap := h', toks := t' } := by
  have hnU : H U = none := I.hok.fresh hU
  have hnT : H T = none := I.hok.fresh hT
  have keep : ∀ b u, H b = some u → upd (upd H U ob) T ob2 b = some u := fun b u e => by
    rw [upd_ne (ne_of_none e hnT), upd_ne (ne_of_none e hnU)]; exact e
  have nit : ∀ b u, H b = some u → b ∉ ch := fun b u e z => by
    have q := (hf b z).1
    rw [q] at e; cases e
  refine I.step (g' := s.gens) (d' := s.drawn) (ch := ch) (fun b hb => ⟨(hf b hb).2.2.2.1, (hf b hb).2.1, (hf b hb).2.2.2.2.1, (hf b hb).2.2.2.2.2⟩) (fun b o _ _ hc e _ => k b o hc e) (fun b o _ _ hc e _ => ⟨o.slots, k b o hc e⟩)
    (fun b o _ e n => ?_) (fun b o hc e => ⟨o, k b o hc e⟩) (fun b xs e => keep _ _ e) (fun b o u e => keep _ _ e) (fun b ps e => ⟨#[], by rw [keep _ _ e]; simp⟩) (fun m hm => ?_) (fun b u e => ?_) I.bare
  · rw [upd_ne (Nat.ne_of_lt (Nat.lt_of_lt_of_le (Heap.lt_size e) hT)), upd_ne (Nat.ne_of_lt (Nat.lt_of_lt_of_le (Heap.lt_size e) hU))]; exact n
  · obtain ⟨o, es, ep, ho, r⟩ := hm
    exact ⟨o, es, ep, k _ o (fun z => (hf _ z).2.1 rfl) ho, r⟩
  · by_cases hb : b = T
    · subst hb
      rw [upd_same] at e
      cases e
      exact new2
    · by_cases hb2 : b = U
      · subst hb2
        rw [upd_ne hb, upd_same] at e
        cases e
        exact new1
      · rw [upd_ne hb, upd_ne hb2] at e
        refine (I.hok b u e).stay (fun c v hc q => k c v ?_ q) (fun c q => keep _ _ q) fun c xs q => keep _ _ q
        rcases hc with z | z
        · rw [z]; exact nit b u e
        · exact nit c _ z
theorem turn_enumZip {P : Program} {w : World} {K : PySem.W.Frag} {elts : List Expr} {kk : Nat} {tpos : Pos} {a b e z TI TO i1 i2 : Addr} (S : ZipSep2 z TI TO i1 i2 [i1, a] [i2, b]) (hez : e ≠ z) (heI : e ≠ TI) (heO : e ≠ TO) (he1 : e ∉ [i1, a]) (he2 : e ∉ [i2, b]) (hne1 : a ≠ i1) (hne2 : b ≠ i2) :
    Turn P w K (.Tuple elts kk tpos) (Itez K a b) [e, z, TI, TO, i1, i2] e (fun i h => (∃ old, IsEnum h e z ((i : Nat) : Int) old) ∧ ZSt h z TI TO ∧ IsTupOf2 h TI (.ref i1) (.ref i2) ∧ (∃ x y, IsTupOf2 h TO x y) ∧ h.IsListIter i1 a i ∧ h.IsListIter i2 b i) where
  mem := by simp
  obj := fun i h st c hc => by
    obtain ⟨⟨old, he⟩, ⟨f0, f1, hz, _⟩, hTI, ⟨x, y, hTO⟩, ⟨o1, e1, _, d1⟩, ⟨o2, e2, _, d2⟩⟩ := st
    have e' : c = e ∨ c = z ∨ c = TI ∨ c = TO ∨ c = i1 ∨ c = i2 := by simpa using hc
    rcases e' with q | q | q | q | q | q
    · rw [q]; exact ⟨_, he, fun v q => nomatch q⟩
    · rw [q]; exact ⟨_, hz, fun v q => nomatch q⟩
    · rw [q]; exact ⟨_, hTI, fun v q => nomatch q⟩
    · rw [q]; exact ⟨_, hTO, fun v q => nomatch q⟩
    · rw [q]; exact ⟨o1, e1, fun v q => by rw [d1] at q; cases q⟩
    · rw [q]; exact ⟨o2, e2, fun v q => by rw [d2] at q; cases q⟩
  keep := fun i h h' st k => by
    obtain ⟨⟨old, he⟩, ⟨f0, f1, hz, hf⟩, hTI, ⟨x, y, hTO⟩, h1, h2⟩ := st
    exact ⟨⟨old, k e (by simp) _ he⟩, ⟨f0, f1, k z (by simp) _ hz, hf⟩, k TI (by simp) _ hTI, ⟨x, y, k TO (by simp) _ hTO⟩, h1.at fun o q => k i1 (by simp) o q, h2.at fun o q => k i2 (by simp) o q⟩
  item := by
    intro X hP hw hK hc i pins s σ H E I hf st hg
    subst hP hw hK
    obtain ⟨⟨old, he⟩, hz, hTI, hTO, h1, h2⟩ := st
    obtain ⟨xs, ys, x, y, hqx, hqy, hx, hy⟩ := hg
    obtain ⟨its, rv, p, _⟩ := I.list hqx
    obtain ⟨its2, rv2, p2, _⟩ := I.list hqy
    obtain ⟨u, hu, ru⟩ := rv.get hx
    obtain ⟨u2, hu2, ru2⟩ := rv2.get hy
    have hel : e < s.heap.objs.size := Heap.lt_size he
    have hlt1 : i < its.toArray.size := by have := (List.getElem?_eq_some_iff.mp hu).1; simpa using this
    have hlt2 : i < its2.toArray.size := by have := (List.getElem?_eq_some_iff.mp hu2).1; simpa using this
    refine pyNext_enum_zip S (Draws.list (A := X.A.in1.in1) (I.ok.hd hc) i1 a hne1 its.toArray) (Draws.list (A := X.A.in1.in1) (I.ok.hd hc) i2 b hne2 its2.toArray) he ⟨hz, hTI, hTO, ⟨h1, p.isList⟩, ⟨h2, p2.isList⟩⟩ hlt1 hlt2 hez heI heO he1 he2 fun x1 x2 h' tk hx1 hx2 ho hzg hU hT hsz hk => ?_
    have ex1 : x1 = u := by
      have e2 : its[i]? = some x1 := by simpa using hx1
      rw [hu] at e2; exact (Option.some.inj e2).symm
    have ex2 : x2 = u2 := by
      have e2 : its2[i]? = some x2 := by simpa using hx2
      rw [hu2] at e2; exact (Option.some.inj e2).symm
    subst ex1 ex2
    refine ⟨_, rfl, wpAny_letOwnedTupleGo_enum (s := { s with heap := h', toks := tk + 1 }) ho fun h'' he' sb => ?_⟩
    have hT2 : h''.get? (s.heap.objs.size + 1) = some { cls := .type "tuple", data := .seq #[.int i tk, .ref s.heap.objs.size] } := (sb.2 _ (Nat.ne_of_gt (Nat.lt_succ_of_lt hel))).trans hT
    have hU2 : IsTupOf2 h'' s.heap.objs.size x1 x2 := (sb.2 _ (Nat.ne_of_gt hel)).trans hU
    have new1 : ObjOk X.prog X.w (upd (upd H s.heap.objs.size (.tup [x, y])) (s.heap.objs.size + 1) (.tup [.int (i : Nat), .ref s.heap.objs.size])) h'' s.heap.objs.size (.tup [x, y]) :=
      ⟨by show 2 ≤ sizeLine; decide, [x1, x2], .cons ru (.cons ru2 .nil), ⟨_, hU2, rfl, _, rfl⟩⟩
    have new2 : ObjOk X.prog X.w (upd (upd H s.heap.objs.size (.tup [x, y])) (s.heap.objs.size + 1) (.tup [.int (i : Nat), .ref s.heap.objs.size])) h'' (s.heap.objs.size + 1) (.tup [.int (i : Nat), .ref s.heap.objs.size]) :=
      ⟨by show 2 ≤ sizeLine; decide, [.int i tk, .ref s.heap.objs.size], .cons ⟨_, rfl⟩ (.cons rfl .nil), ⟨_, hT2, rfl, _, rfl⟩⟩
    have I1 := I.turnedNew2 (h' := h'') (t' := tk + 1) (ch := [e, z, TI, TO, i1, i2]) (fun c o hb q => (sb.2 c (fun q' => hb (by simp [q']))).trans (hk c o (fun q' => hb (by simp [q'])) (fun q' => hb (by simp [q'])) (fun q' => hb (by simp [q'])) (fun q' => hb (by simp [q'])) (fun q' => hb (by simp [q'])) q)) hf (Nat.le_refl _) (Nat.le_succ _) (Nat.succ_ne_self _) new1 new2
    have fr0 : H s.heap.objs.size = none := I.hok.fresh (Nat.le_refl _)
    have fr1 : H (s.heap.objs.size + 1) = none := I.hok.fresh (Nat.le_succ _)
    obtain ⟨g1, g2, ⟨x0, y0, g3⟩, g4, g5⟩ := hzg
    refine ⟨.ref (s.heap.objs.size + 1), _, I1, rfl, ⟨_, _, x, y, rfl, fr0, ?_, rfl, fun l hl => by rw [I.list_inj hl hqx]; exact hx, fun l hl => by rw [I.list_inj hl hqy]; exact hy⟩, ⟨⟨.ref s.heap.objs.size, ?_⟩, ?_, ?_, ?_, ?_, ?_⟩, fun c hcm => ?_⟩
    · rw [upd_ne (Nat.succ_ne_self _)]; exact fr1
    · have e1 : ((i + 1 : Nat) : Int) = (i : Int) + 1 := by omega
      rw [e1]; exact he'
    · obtain ⟨f0, f1, gz, gf⟩ := g1
      exact ⟨f0, f1, (sb.2 _ (Ne.symm hez)).trans gz, gf⟩
    · exact (sb.2 _ (Ne.symm heI)).trans g2
    · exact ⟨x0, y0, (sb.2 _ (Ne.symm heO)).trans g3⟩
    · exact g4.1.at fun o q => (sb.2 _ (fun q' => he1 (by simp [← q']))).trans q
    · exact g5.1.at fun o q => (sb.2 _ (fun q' => he2 (by simp [← q']))).trans q
    · have q := (hf c hcm).1
      have hc0 : c < s.heap.objs.size := by
        have e' : c = e ∨ c = z ∨ c = TI ∨ c = TO ∨ c = i1 ∨ c = i2 := by simpa using hcm
        obtain ⟨f0, f1, hz, hf⟩ := hz
        obtain ⟨xx, yy, hTO⟩ := hTO
        rcases e' with q | q | q | q | q | q
        · rw [q]; exact hel
        · rw [q]; exact Heap.lt_size hz
        · rw [q]; exact Heap.lt_size hTI
        · rw [q]; exact Heap.lt_size hTO
        · rw [q]; obtain ⟨_, e1, _⟩ := h1; exact Heap.lt_size e1
        · rw [q]; obtain ⟨_, e2, _⟩ := h2; exact Heap.lt_size e2
      rw [upd_ne (Nat.ne_of_lt (Nat.lt_succ_of_lt hc0)), upd_ne (Nat.ne_of_lt hc0)]
      exact q
  done := by
    intro X hP hw hK hc i pins s σ H E I hf st hg
    subst hP hw hK
    obtain ⟨⟨old, he⟩, hz, hTI, hTO, h1, h2⟩ := st
    obtain ⟨xs, ys, hqx, hqy, hend⟩ := hg
    obtain ⟨its, rv, p, _⟩ := I.list hqx
    obtain ⟨its2, rv2, p2, _⟩ := I.list hqy
    have l1 := rv.length
    exact pyNext_enum_zip_end S (Draws.list (A := X.A.in1.in1) (I.ok.hd hc) i1 a hne1 its.toArray) (Draws.list (A := X.A.in1.in1) (I.ok.hd hc) i2 b hne2 its2.toArray) he ⟨hz, hTI, hTO, ⟨h1, p.isList⟩, ⟨h2, p2.isList⟩⟩ (by simp; omega) fun h' tk hk => ⟨rfl, I.turnedL (t' := tk) (ch := [e, z, TI, TO, i1, i2]) (fun c o hb q =>
      hk c o (fun q' => hb (by simp [q'])) (fun q' => hb (by simp [q'])) (fun q' => hb (by simp [q'])) (fun q' => hb (by simp [q'])) q) hf⟩
  self := fun A i s Q E st h => let ⟨⟨_, he⟩, _⟩ := st; wpAny_pyIter_enum he h
def iEnumZip (K : PySem.W.Frag) (ta : TA) : TI := fun σ H R => ta σ H fun vs H1 => ∃ a b xs ys, vs = [.ref a, .ref b] ∧ SqL K H1 a xs ∧ SqL K H1 b ys ∧ R (Itez K a b) H1
theorem pi_enumZip {X : Cx} {e e2 : Expr} {ta : TA} {p pos p2 pos2 tpos : Pos} {elts : List Expr} {kk : Nat} (hg : Gl X "enumerate") (hm : X.mg "enumerate" = none) (hg2 : Gl X "zip") (hm2 : X.mg "zip" = none) (ha : PA X [e, e2] ta)
    (hs1 : starEach [.Call (.Name "zip" p2) [e, e2] [] pos2] X.env = (false, eval (.Call (.Name "zip" p2) [e, e2] [] pos2) X.env) :: starEach [] X.env := by rfl)
    (hs : starEach [e, e2] X.env = (false, eval e X.env) :: starEach [e2] X.env := by rfl) (hpl : (backTo pos2 (starEach [e2] X.env)).any (·.1) = false := by rfl) :
    PI X (.Tuple elts kk tpos) (.Call (.Name "enumerate" p) [.Call (.Name "zip" p2) [e, e2] [] pos2] [] pos) (iEnumZip X.K ta) := by
  refine ⟨fun pins s σ H R I h => ?_⟩
  refine Call_ (ld_blt I hg hm boot_enumerate (PyProof.Rows.callWith_type1 ?_ hs1 rfl))
  rw [hs1]
  show wpAny _ _ (spliced ((false, eval (.Call (.Name "zip" p2) [e, e2] [] pos2) X.env) :: backTo pos (starEach [] X.env))) _ _ s
  refine Calls.spliced_cons (Call_ (ld_blt I hg2 hm2 PyProof.Rows.boot_zip (PyProof.Rows.callWith_type1 (thn (ha.run pos2 pins s σ H _ I h) fun us s1 ⟨vs, H1, I1, r1, q1⟩ => ?_) hs hpl)))
  obtain ⟨a, b, xs, ys, ex, hqx, hqy, q⟩ := q1
  subst ex
  cases r1 with
  | cons r rr =>
    cases rr with
    | cons r' rr =>
      cases rr
      cases r
      cases r'
      obtain ⟨its, rv, p1, _⟩ := I1.list hqx
      obtain ⟨its2, rv2, p2', _⟩ := I1.list hqy
      have la : a < s1.heap.objs.size := p1.lt
      have lb : b < s1.heap.objs.size := p2'.lt
      refine call_zip_2 p1.isList p2'.isList fun h' hz hTI hTO h1 h2 hsz hk => ?_
      refine Calls.spliced_nil (call_enumerate_zip hz fun h'' he hsz2 hk2 => wpAny_pyIter_enum he ?_)
      have I2 : Inv X pins σ H1 { s1 with heap := h'' } := I1.kept (t' := s1.toks) fun c o q => hk2 _ _ (hk _ _ q)
      have hsz' : h'.objs.size = s1.heap.objs.size + 5 := hsz
      rw [show ({ s1 with heap := h' } : Shared).heap.objs.size = s1.heap.objs.size + 5 from hsz'] at he ⊢
      obtain ⟨k1, k2, k3, k4, k5, k6, k7, k8, k9⟩ := nat_new _ a b la lb
      refine ⟨s1.heap.objs.size + 5, [s1.heap.objs.size + 5, s1.heap.objs.size + 4, s1.heap.objs.size + 2, s1.heap.objs.size + 3, s1.heap.objs.size, s1.heap.objs.size + 1], _, _, H1, rfl, I2,
        turn_enumZip (sep_new s1.heap.objs.size a b la lb) k1 k2 k3 (by simp [k4, k5]) (by simp [k6, k7]) k8 k9, ⟨⟨_, he⟩, ⟨_, _, hk2 _ _ hz, .inl rfl⟩, hk2 _ _ hTI, ⟨_, _, hk2 _ _ hTO⟩, h1.at fun o q => hk2 _ o q, h2.at fun o q => hk2 _ o q⟩, fun c hcm => ?_, q⟩
      have hle : s1.heap.objs.size ≤ c := by
        have e' : c = s1.heap.objs.size + 5 ∨ c = s1.heap.objs.size + 4 ∨ c = s1.heap.objs.size + 2 ∨ c = s1.heap.objs.size + 3 ∨ c = s1.heap.objs.size ∨ c = s1.heap.objs.size + 1 := by simpa using hcm
        rcases e' with z | z | z | z | z | z
        · rw [z]; exact Nat.le_add_right _ _
        · rw [z]; exact Nat.le_add_right _ _
        · rw [z]; exact Nat.le_add_right _ _
        · rw [z]; exact Nat.le_add_right _ _
        · rw [z]; exact Nat.le_refl _
        · rw [z]; exact Nat.le_add_right _ _
      exact I1.fpOk hle (I1.hok.fresh hle)
end L2
end
section
set_option Elab.async false
set_option linter.all false
set_option maxRecDepth 100000
set_option maxHeartbeats 4000000
/-! K6: own errors over an own error over Exception, whose __init__ calls super().__init__ and stores one field. -/
namespace PySem
namespace XSI
open PySem.W PySem.Calls PyProof.Rows PySem.HandSPX
/-! ### the text of __init__ -/
def iS : Scope := { kind := .function, names := [(PySem.Str.ofString "self", .local), (PySem.Str.ofString "at", .local), (PySem.Str.ofString "__class__", .free), (PySem.Str.ofString "super", .globalImplicit)], isGenerator := false, isCoroutine := false, more := [] }
def iA (p1 p2 : Pos) (dfl : List Expr) : Arguments := { posonlyargs := [], args := [{ arg := "self", annotation := none, pos := p1 }, { arg := "at", annotation := none, pos := p2 }], vararg := none, kwonlyargs := [], kw_defaults := [], kwarg := none, defaults := dfl }
def iB (msg : Str) (q0 q1 q2 q3 q4 q5 r1 r2 r3 r4 : Pos) : List Stmt :=
  [.Expr (.Call (.Attribute (.Call (.Name "super" q0) [] [] q1) "__init__" q2) [.Constant (.str msg) 0 q3] [] q4) q5, .Assign [.Attribute (.Name "self" r1) "at" r2] (.Name "at" r3) r4]
/-- super().__init__('..') is a method's call -/
def MC (msg : Str) (q0 q1 q2 q3 q4 : Pos) : Prop := ∃ pl : Env → Sem Bool, ∀ env : Env, eval (.Call (.Attribute (.Call (.Name "super" q0) [] [] q1) "__init__" q2) [.Constant (.str msg) 0 q3] [] q4) env = (do
      let ov ← attributeBase (.Call (.Name "super" q0) [] [] q1) "__init__" env (eval (.Call (.Name "super" q0) [] [] q1) env)
      standAt q2.atName
      let (f, first) ← holding [ov] (getMethod ov "__init__" (pl env))
      callWith q4 f first (backTo q4 (starEach [.Constant (.str msg) 0 q3] env)) [])
example : MC "no such book" ⟨10, 8, 10, 13⟩ ⟨10, 8, 10, 15⟩ ⟨10, 8, 10, 24⟩ ⟨10, 25, 10, 39⟩ ⟨10, 8, 10, 40⟩ := ⟨fun _ => _, fun _ => rfl⟩
/-- what the written part says of such a class, at C, and of its __init__, at fI -/
structure XTxt (prog : Program) (K : Frag) (mg : Str → Option Value) (nm : Str) (C fI : Addr) : Prop where
  gC : mg nm = some (.ref C)
  cls : ∃ nm' q N bs bm sn sub ab col dd k0 k1 k2 k3 k5, K.lookup C = some (excClassObj nm' q C N bs bm true sn sub ab col dd k0 k1 k2 k3 k5 "Exception.__new__") ∧ excTail ESX.exTail bm = true ∧ alongIn K "__init__" bm = some (some (.builtin "Exception.__init__"))
  sa : findIn K (.ref C) "__setattr__" = some (some (.builtin "object.__setattr__"))
  noN : findIn K (.ref C) "at" = some none
  iC : findIn K (.ref C) "__init__" = some (some (.ref fI))
  tC : typeIn K (.ref fI) = some (.type "function")
  kC : keepIn K (.ref C) = true
  exC : subIn K (.ref C) (.type "BaseException") = some true
  exE : subIn K (.ref C) (.type "Exception") = some true
  tyC : typeIn K (.ref C) = some (.type "type")
  sub : mroIn K C (.ref C) = some true
  opq : nsIn K cStatics "thirdparty.any" = some none
  gS : mg "super" = none
  top : (prog.main.scope.names.lookup ("super" : Str)).isSome = false
  fn : ∃ (oc : Value) (od : Option Addr) (T : Addr) (oT : Obj) (itsT : Array Value) (nT : Nat) (kV doc pm : Value) (an : Option Addr) (cda cc : Addr) (ct : Value) (osl : Array (Option Value)) (qual msg : Str) (p1 p2 q0 q1 q2 q3 q4 q5 r1 r2 r3 r4 : Pos) (dfl : List Expr)
      (vs : Array Value) (file : Str) (tf : Tok) (ccl cl : Value) (cdd cld : Option Addr) (ccs csl : Array (Option Value)),
    K.lookup fI = some ⟨oc, od, .func (fnX "__init__" qual (iA p1 p2 dfl) (iB msg q0 q1 q2 q3 q4 q5 r1 r2 r3 r4) iS [("__class__", cc)] (.ref T) kV doc pm an (.ref cda) ct), osl⟩ ∧ codeIn K (.ref cda) qual = true ∧
    K.lookup T = some oT ∧ oT.data = .seq itsT nT ∧ itsT.size = 1 ∧
    K.lookup cda = some ⟨ccl, cdd, .fields vs, ccs⟩ ∧ vs[2]? = some (.str file tf) ∧ ((prog.main.file : Str) == file) = true ∧
    K.lookup cc = some ⟨cl, cld, .cell (some (.ref C)), csl⟩ ∧ MC msg q0 q1 q2 q3 q4
structure InitEnd (h h' : Heap) (x C dx t1 : Addr) (v : Value) : Prop where
  keep : ∀ b o, b ≠ x → h.get? b = some o → h'.get? b = some o
  obj : h'.get? x = some { cls := .ref C, dict := some dx, data := .fields #[.ref t1, .none, .none, .none, .bool false, .none] }
  dbig : h.objs.size ≤ dx
  dne : dx ≠ x
  ns : h'.Ns1 dx (fun y => if y = "at" then some v else none)
section
open Builtin Builtin.ObjectAttr
variable {prog : Program} {w : World} {A : Around} {E : Value → Shared → Prop} {R : Result → Shared → Prop} {hp : Heap} {g : Array GenState} {d : Drawn} {t : Nat} {os : OsState}
/-- the first field of an exception -/
theorem osa_new {K : W.Frag} {name : Str} {tk : Tok} {v : Value} {x C : Addr} {fv : Array Value} {cd : ClassData}
    (X : K.In hp) (hx : hp.get? x = some { cls := .ref C, data := .fields fv }) (hcd : W.clsIn K C = some cd) (hh : cd.hasDict = true) (hov : excOver K C ESX.exTail = true) (ha : W.findIn K (.ref C) name = some none)
    (hq : ∀ h' tk' dx, (∀ b o, b ≠ x → hp.get? b = some o → h'.get? b = some o) → hp.objs.size ≤ dx → dx ≠ x → h'.get? x = some { cls := .ref C, dict := some dx, data := .fields fv } →
      h'.Ns1 dx (fun y => if y = name then some v else none) → R (.ok (.ret .none)) ⟨h', g, d, tk', os⟩) :
    codeAny (model prog w) A (.call (.builtin "object.__setattr__") ⟨[.ref x, .str name tk, v], []⟩) R ⟨hp, g, d, t, os⟩ := by
  have I : W.InstAt hp x { cls := .ref C, data := .fields fv } C none := ⟨hx, rfl, rfl, trivial⟩
  have hxs : x ≠ hp.objs.size := Nat.ne_of_lt (Heap.lt_size hx)
  have ht : takerIn K C name = some none := by unfold takerIn; rw [ha]; rfl
  refine osa_openX (s := ⟨hp, g, d, t, os⟩) (B := "Exception") F.store_Exception X I hov ht fun b => ?_
  show wpAny _ _ (storeInOwnDict (.ref x) (.ref C) (.str name tk) name v b) _ _ _
  have hcls : W.Looks (model prog w) hp (classData C) cd := W.looks_clsIn X hcd
  obtain ⟨nm, bs, mro, ns, qn, hd, sn, sb, ab, col, del⟩ := cd
  dsimp only at hh
  subst hh
  unfold storeInOwnDict ownDictForStores
  repeat (first | with_reducible refine HandSPX.store_in_new ?_ ?_ | with_reducible refine wpAny_loadPart_at hx ?_ | with_reducible refine hcls.at ?_ | wp_step)
  · exact ⟨_, #[], _, (Heap.get?_update_ne _ _ _ _ hxs.symm).trans (Heap.get?_push_at rfl rfl), rfl, fun e he => absurd he (by simp), fun _ => rfl⟩
  · intro h' tk' hn' hs
    have hx₁ : (hp.push { cls := .type "dict", data := .dict #[] }).get? x = some { cls := .ref C, data := .fields fv } := Heap.get?_push_of_some _ hx
    refine hq h' tk' hp.objs.size (fun b o hb ho => ?_) (Nat.le_refl _) hxs.symm ?_ hn'
    · exact (hs.2 b (Nat.ne_of_lt (Heap.lt_size ho))).trans ((Heap.get?_update_ne _ _ _ _ hb).trans (Heap.get?_push_of_some _ ho))
    · exact (hs.2 x hxs).trans (Heap.get?_update_self _ hx₁ rfl)
end
section
variable {prog : Program} {w : World} {A : Around} {R : Result → Shared → Prop} {s : Shared} {K : Frag} {mg : Str → Option Value} {nm : Str} {C fI : Addr}
theorem bind2 {qual : Str} {p1 p2 : Pos} {dfl : List Expr} {body : List Stmt} {cl : List (Str × Addr)} {T : Addr} {kV doc pm cdv ct : Value} {an : Option Addr} {oT : Obj} {itsT : Array Value} {nT : Nat} {u v : Value}
    (X : K.In s.heap) (lT : K.lookup T = some oT) (dT : oT.data = .seq itsT nT) (zT : itsT.size = 1) : BindsTo s (fnX "__init__" qual (iA p1 p2 dfl) body iS cl (.ref T) kV doc pm an cdv ct) ⟨[u, v], []⟩ [("self", u), ("at", v)] := by
  refine L2.BindsTo.of_looks fun M => ?_
  obtain ⟨l⟩ := itsT
  match l, zT with
  | [z], _ => exact L2.looks_items (its := #[z]) X lT dT (.of_pure rfl)
theorem locs2 {u v : Value} : ∀ y ∈ ([("self", u), ("at", v)] : List (Str × Value)), iS.names.lookup y.1 = some .local := fun y hy => by
  rcases List.mem_cons.mp hy with e | hy
  · rw [e]; rfl
  · rcases List.mem_cons.mp hy with e | hy
    · rw [e]; rfl
    · cases hy
theorem ldN {M : Model} {E : Value → Shared → Prop} {env : Env} {m : Str → Option Value} {x : Str} {pos : Pos} {v : Value} {Q : Value → Shared → Prop} (hn : s.heap.Ns env.locals m) (hv : m x = some v) (h : Q v s)
    (hk : env.scope.kind = .function := by rfl) (hl : env.kindOf x = some .local := by rfl) (hd : (x == ("__debug__" : Str)) = false := by decide) : wpAny M A (eval (.Name x pos) env) Q E s := wpAny_Name (wpAny_loadName_local hk hl hn hv h) hd
theorem one_le (v : Value) : [v].length ≤ sizeLine := by
  rw [sizeLine_eq]
  exact (by decide : 1 ≤ 16777216)
theorem x_init (T : XTxt prog K mg nm C fI) {x t0 : Addr} {v : Value} (X : K.In s.heap) (G : s.heap.Ns mainGlobals mg) (B : ∃ mb, s.heap.Ns builtinsNs mb ∧ ∀ x : Str, x ≠ "__name__" → mb x = bootBuiltins x) (hlim : s.heap.NoLimit) (hx : s.heap.get? x = some (excO C t0)) (hnx : K.lookup x = none) (hroom : A.depth < recursionLimit)
    (hq : ∀ h' tk dx t1, InitEnd s.heap h' x C dx t1 v → R (.ok (.ret .none)) { s with heap := h', toks := tk }) :
    codeAny (model prog w) A (.call (.ref fI) ⟨[.ref x, v], []⟩) R s := by
  obtain ⟨oc, od, T0, oT, itsT, nT, kV, doc, pm, an, cda, cc, ct, osl, qual, msg, p1, p2, q0, q1, q2, q3, q4, q5, r1, r2, r3, r4, dfl, vs, file, tf, ccl, cl, cdd, cld, ccs, csl, lf, hcd, lT, dT, zT, lcd, hvs, hfile, lcc, pl, hmc⟩ := T.fn
  obtain ⟨nm', q, N, bs, bm, sn, sub, ab, col, dd, k0, k1, k2, k3, k5, hC, hbm, hal⟩ := T.cls
  have hcl : clsIn K C = some { name := nm', bases := bs, mro := .ref C :: bm, ns := N, qualname := q, hasDict := true, slotNames := sn, subclasses := sub, abstract := ab, collection := col, hasDel := false } := by unfold clsIn; rw [hC] <;> rfl
  have hov : excOver K C ESX.exTail = true := by
    unfold excOver
    rw [hcl]
    show (C == C && excTail ESX.exTail bm) = true
    rw [hbm]
    simp
  obtain ⟨mb, nb, hb⟩ := B
  refine ks_codeAny_call_defAt (binds := [("self", .ref x), ("at", v)]) hroom (X _ _ lf) rfl hlim (codeRec_of X hcd) rfl (bind2 X lT dT zT) (show ∀ x ∈ iS.names, x.2 ≠ .cell by decide) (fun y hy => locs2 y hy) (fun h₁ hn k => ?_)
  have X₁ : K.In h₁ := X.keeps k
  have hx₁ := k _ _ hx
  obtain ⟨hp, g, d, tk, os⟩ := s
  have hxL : hp.objs.size ≠ x := Nat.ne_of_gt (Heap.lt_size hx)
  -- super().__init__('..')
  show wpAt (model prog w) (A.deeper (ksEnv qual iS hp.objs.size fI (.ref cda) cc)) (.func (iB msg q0 q1 q2 q3 q4 q5 r1 r2 r3 r4) (ksEnv qual iS hp.objs.size fI (.ref cda) cc)) (execs ((.Expr (.Call (.Attribute (.Call (.Name "super" q0) [] [] q1) "__init__" q2) [.Constant (.str msg) 0 q3] [] q4) q5) :: [.Assign [.Attribute (.Name "self" r1) "at" r2] (.Name "at" r3) r4]) (ksEnv qual iS hp.objs.size fI (.ref cda) cc)) _ _ _
  refine ks_wpAt_execs_cons (ks_wpAt_Expr_any (ks_wpAt_MethodCall (pl := pl _) ?_ (hmc _)))
  refine ks_wpAt_super_base (f := fI) (cc := cda) rfl rfl rfl rfl (X₁ _ _ lf) rfl rfl rfl (X₁ _ _ lcd) rfl hvs hfile T.top ?_
  refine ks_loadName_global rfl rfl (loadGlobal_builtin (G.keeps k) T.gS (nb.keeps k) ((hb _ (by decide +kernel)).trans PyProof.Rows.Boot.«super») ⟨rfl, ?_⟩)
  refine wpAny_loadName_free rfl rfl rfl ⟨_, X₁ _ _ lcc, rfl⟩ ?_
  refine wpAny_loadName_local rfl rfl hn (v := .ref x) rfl ?_
  refine ks_wpAny_isType_cls (X₁ _ _ hC) rfl ⟨rfl, ?_⟩
  refine ks_wpAny_call_super (X₁ _ _ hC) rfl hx₁ rfl (fun c e => by cases e) (looks_mroIn X₁ T.sub) (fun h₂ hso k₂ => ?_)
  have X₂ : K.In h₂ := X₁.keeps k₂
  have hx₂ := k₂ _ _ hx₁
  have I2 : W.InstAt h₂ x (excO C t0) C none := ⟨hx₂, rfl, rfl, trivial⟩
  refine kxs_getMethod kxs_Exception hso (looks_opaque X₂ T.opq) (l₀ := .ref C :: bm) ((looks_clsIn X₂ hcl).andThen .now) (l := bm) (by simp [List.dropWhile_cons]) X₂ hal (I2.type.andThen (looks_subIn X₂ T.exE)) (fun z => by
    rw [z] at hx₂
    have y := (X₂ _ _ hC).symm.trans hx₂
    cases y) rfl ?_
  have k3 : ∀ b o, h₂.get? b = some o → (h₂.push (kxs_mw "Exception.__init__" x)).get? b = some o := fun b o e => Heap.get?_push_of_some _ e
  have hbw : (h₂.push (kxs_mw "Exception.__init__" x)).get? h₂.objs.size = some (ESX.bw x) := Heap.get?_push_at rfl rfl
  refine ESX.callWith_bound (x := x) ?_ rfl rfl
  refine Calls.spliced_cons (Calls.Constant_str (k := 0) (pos := q3) (Calls.spliced_nil ⟨hbw, ?_⟩))
  refine ESX.call_bw ((X₂.keeps k3) _ _ hC) (k3 _ _ hx₂) hbw (one_le _) (fun h₄ t1 k4 hx4 => ?_)
  -- self.at = at
  have kk : ∀ b o, b ≠ x → hp.get? b = some o → h₄.get? b = some o := fun b o hb e => k4 b o hb (k3 _ _ (k₂ _ _ (k _ _ e)))
  have X₄ : K.In h₄ := fun a o e => k4 a o (fun z => by rw [z, hnx] at e; cases e) ((X₂.keeps k3) _ _ e)
  have hn4 : h₄.Ns hp.objs.size (fun y => ([("self", Value.ref x), ("at", v)] : List (Str × Value)).reverse.lookup y) := hn.at fun o e => k4 _ o hxL (k3 _ _ (k₂ _ _ e))
  refine ks_wpAt_execs_cons (wpAt_of_wpAny (plainObj_wpAny_Assign_Attribute (ldN hn4 (v := v) rfl (ldN hn4 (v := .ref x) rfl ?_))))
  refine set_plain X₄ (ox := excO C t1) (od := none) ⟨hx4, rfl, rfl, trivial⟩ T.sa ?_
  refine osa_new X₄ hx4 hcl rfl hov T.noN (fun h₅ tk₅ dx k5 dn dne hx5 hn5 => ?_)
  refine wpAt_of_wpAny (wpAny_execs_nil (hq h₅ tk₅ dx t1 ⟨fun b o hb e => k5 b o hb (kk b o hb e), hx5, ?_, dne, hn5⟩))
  have z := hn4.lt
  exact Nat.le_of_lt (Nat.lt_of_lt_of_le z dn)
/-- a made X -/
structure OwnMade (h h' : Heap) (e C d : Addr) (v : Value) : Prop where
  keep : ∀ b o, h.get? b = some o → h'.get? b = some o
  new : h.objs.size ≤ e
  obj : ∃ oe vs, h'.get? e = some oe ∧ oe.cls = .ref C ∧ oe.dict = some d ∧ oe.data = .fields vs ∧ vs[1]? = some .none
  dbig : h.objs.size ≤ d
  dne : d ≠ e
  ns : h'.Ns1 d (fun y => if y = "at" then some v else none)
theorem x_made (T : XTxt prog K mg nm C fI) {v : Value} (X : K.In s.heap) (G : s.heap.Ns mainGlobals mg) (B : ∃ mb, s.heap.Ns builtinsNs mb ∧ ∀ x : Str, x ≠ "__name__" → mb x = bootBuiltins x) (hlim : s.heap.NoLimit) (hroom : A.depth + 1 < recursionLimit)
    (hq : ∀ h' tk e d, OwnMade s.heap h' e C d v → R (.ok (.ret (.ref e))) { s with heap := h', toks := tk }) :
    codeAny (model prog w) A (.call (.ref C) ⟨[v], []⟩) R s := by
  obtain ⟨nm', q, N, bs, bm, sn, sub, ab, col, dd, k0, k1, k2, k3, k5, hC, hbm, hal⟩ := T.cls
  obtain ⟨hp, g, dr, tk, os⟩ := s
  have k : ∀ b o, hp.get? b = some o → ((hp.push (kdv_tup [v])).push (excO C hp.objs.size)).get? b = some o := fun b o e => Heap.get?_push_of_some _ (Heap.get?_push_of_some _ e)
  have hget : ((hp.push (kdv_tup [v])).push (excO C hp.objs.size)).get? (hp.objs.size + 1) = some (excO C hp.objs.size) := by heap_get
  have hnx : K.lookup (hp.objs.size + 1) = none := by
    cases e : K.lookup (hp.objs.size + 1) with
    | none => rfl
    | some o =>
      have z : hp.get? (hp.objs.size + 1) = some o := X _ _ e
      exact absurd (Nat.lt_of_succ_lt (Heap.lt_size z)) (Nat.lt_irrefl _)
  obtain ⟨mb, nb, hb⟩ := B
  refine HandSPX.call_own F.excBase_Exception (fun X => excTail_contains X bm hbm) (X _ _ hC) (looks_findIn X T.iC) (fun self => bind_fn X self T.tC) (one_le v) ?_
  refine x_init (s := ⟨(hp.push (kdv_tup [v])).push (excO C hp.objs.size), g, dr, tk, os⟩) T (X.keeps k) (G.keeps k) ⟨mb, nb.keeps k, hb⟩ (hlim.keeps k) hget hnx ?_ fun h' tk' dx t1 ⟨k', hx, dn, dne, hns⟩ => ?_
  · show A.depth + 1 < recursionLimit
    exact hroom
  · have old : ∀ b o, hp.get? b = some o → h'.get? b = some o := fun b o e => k' b o (Nat.ne_of_lt (Nat.lt_succ_of_lt (Heap.lt_size e))) (k b o e)
    have z : hp.objs.size + 1 + 1 ≤ dx := by
      first
        | (simpa only [Heap.size_push] using dn)
        | exact dn
        | (have q := dn; rw [Heap.size_push, Heap.size_push] at q; exact q)
    exact ⟨rfl, hq h' tk' (hp.objs.size + 1) dx ⟨old, Nat.le_succ _, ⟨_, _, hx, rfl, rfl, rfl, rfl⟩, Nat.le_trans (Nat.le_trans (Nat.le_succ _) (Nat.le_succ _)) z, dne, hns⟩⟩
end
end XSI
end PySem
namespace L2
open PySem PySem.Spec PyProof.Rows
theorem relO_at {v : V} {v' : Value} (r : RelV v v') (f : Str) : RelO (List.lookup f [(("at" : Str), v)]) (if f = "at" then some v' else none) := by
  by_cases hw : f = "at"
  · subst hw
    rw [if_pos rfl]
    have q : List.lookup ("at" : Str) [(("at" : Str), v)] = some v := by simp [List.lookup]
    rw [q]
    exact r
  · rw [if_neg hw]
    have qw : (f == ("at" : Str)) = false := by simpa using hw
    have q2 : List.lookup f [(("at" : Str), v)] = none := by simp [List.lookup, qw]
    rw [q2]
    trivial
section
variable {X : Cx} {C fI : Addr} {nm : Str}
/-- X(e): every new dict -/
def tMkX (C : Addr) (ta : TE) : St → Hp → XK → Prop := fun σ H Q => ta σ H fun v H1 => ∀ d, H1 d = none → Q (.ref C) (some d) (upd H1 d (.xd [(("at" : Str), v)]))
theorem pmk_x {a : Expr} {ta : TE} {p pos : Pos} {k : Nat} (T : PySem.XSI.XTxt X.prog X.K X.mg nm C fI) (hr : Room k X.A) (ha : PE X a ta) (hg : Gl X nm := by rfl) (hdb : (nm == ("__debug__" : Str)) = false := by decide)
    (he : starEach (a :: []) X.env = (false, eval a X.env) :: starEach [] X.env := by rfl) (hpl : (backTo pos (starEach [] X.env)).any (·.1) = false := by rfl) :
    PMk X (.Call (.Name nm p) [a] [] pos) (tMkX C ta) := by
  intro pins s σ H Q I h
  refine wpAny_Call_Name_kw (ld_glob I hg T.gC ?_ hdb)
  have ha' : PA X [a] (tCons ta tNil) := pa_cons ha pa_nil he
  refine PySem.W.callWith_K (h₀ := X.base) I.ok.mod.kin T.kC (thn (ha'.run pos pins s σ H (fun vs H1 => ∃ v, vs = [v] ∧ ∀ d, H1 d = none → Q (.ref C) (some d) (upd H1 d (.xd [(("at" : Str), v)]))) I ?_) fun us s1 hh => ?_) he hpl
  · show ta σ H _
    exact (show ta σ H fun v H1 => ∃ v', [v] = [v'] ∧ _ from by
      have q := h
      unfold tMkX at q
      have e : (fun v H1 => ∀ d, H1 d = none → Q (.ref C) (some d) (upd H1 d (.xd [(("at" : Str), v)]))) = (fun v H1 => ∃ v', [v] = [v'] ∧ ∀ d, H1 d = none → Q (.ref C) (some d) (upd H1 d (.xd [(("at" : Str), v')]))) := by
        funext v H1
        exact propext ⟨fun z => ⟨v, rfl, z⟩, fun ⟨v', e, z⟩ => by cases e; exact z⟩
      rw [e] at q
      exact q)
  obtain ⟨vs, H1, I1, r1, v, ev, q1⟩ := hh
  subst ev
  refine ⟨I1.kIn, ?_⟩
  cases r1 with
  | cons rv rn =>
    rename_i v' us'
    cases rn
    show wpAny _ _ (call (.ref C) [v']) _ _ _
    have hlim := I1.nolimit
    have hG : s1.heap.Ns mainGlobals X.mg := I1.mod.glob.keeps I1.bk
    obtain ⟨mb, nb, hb⟩ := I1.mod.blt
    have hB : ∃ mb, s1.heap.Ns builtinsNs mb ∧ ∀ x : Str, x ≠ "__name__" → mb x = bootBuiltins x := ⟨mb, nb.keeps I1.bk, hb⟩
    obtain ⟨hp, g, dr, tk, os⟩ := s1
    refine wpAny_call (PySem.XSI.x_made T I1.kIn hG hB hlim (by have := hr.dp; omega) fun h' tk' e d M => ?_)
    show MkP X pins σ Q (.ref e) ⟨h', g, dr, tk', os⟩
    obtain ⟨oe, fv, hoe, hc, hd, hdat, h1⟩ := M.obj
    have hns := M.ns
    obtain ⟨G', g1, g2⟩ := restrict h' fun b => decide (b ≠ e)
    have gk : ∀ b, b ≠ e → G'.get? b = h'.get? b := fun b hb => g1 b (decide_eq_true hb)
    have ge : G'.get? e = none := g2 e (by simp)
    have old : ∀ b o, hp.get? b = some o → G'.get? b = some o := fun b o q => (gk b (Nat.ne_of_lt (Nat.lt_of_lt_of_le (Heap.lt_size q) M.new))).trans (M.keep b o q)
    have ob : ObjOk X.prog X.w (upd H1 d (.xd [(("at" : Str), v)])) G' d (.xd [(("at" : Str), v)]) :=
      ⟨_, hns.at (fun o q => (gk d M.dne).trans q), fun f => relO_at rv f⟩
    have J : Inv X pins σ (upd H1 d (.xd [(("at" : Str), v)])) ⟨G', g, dr, tk', os⟩ := I1.laid (t' := tk') old M.dbig ob
    refine ⟨e, oe, fv, ⟨G', g, dr, tk', os⟩, _, .ref C, some d, rfl, J, fun b o q => ?_, ge, hoe, ⟨hc, hd⟩, hdat, h1, ?_, rfl, I1.bare, raises_own T.exC T.tyC, q1 d (I1.hok.fresh M.dbig)⟩
    · by_cases hb : b = e
      · have q' : G'.get? b = some o := q
        rw [hb, ge] at q'; cases q'
      · exact (gk b hb).symm.trans q
    · rw [upd_ne (Ne.symm M.dne)]
      exact I1.hok.fresh M.new
/-- raise X(e) -/
def tRaiseX (C : Addr) (W : WX) (ta : TE) : TS := fun _ σ H => tMkX C ta σ H fun cls d H' => W cls d σ H'
theorem ps_raiseX {a : Expr} {ta : TE} {W : WX} {p pos pos2 : Pos} {k : Nat} (hc : X.calm = true) (T : PySem.XSI.XTxt X.prog X.K X.mg nm C fI) (hr : Room k X.A) (tk : Takes X W) (ha : PE X a ta) (hg : Gl X nm := by rfl) (hdb : (nm == ("__debug__" : Str)) = false := by decide)
    (he : starEach (a :: []) X.env = (false, eval a X.env) :: starEach [] X.env := by rfl) (hpl : (backTo pos (starEach [] X.env)).any (·.1) = false := by rfl) :
    PS X (.Raise (some (.Call (.Name nm p) [a] [] pos)) none pos2) (tRaiseX C W ta) := ps_raise hc tk (pmk_x T hr ha hg hdb he hpl)
end
end L2
end
section
set_option Elab.async false
set_option linter.all false
set_option maxRecDepth 100000
set_option maxHeartbeats 4000000
/-! K7: calls by name, at the slots; several except clauses with a name. -/
namespace L2
open PySem PySem.Spec PyProof.Rows
def Dn (P : Program) (w : World) (K : PySem.W.Frag) (mg : Str → Option Value) (base : Heap) (CX : CXT) (k : Nat) (x : Str) (ps : List Str) (sp : Sp) : Prop :=
  ∃ f fd, FnOk P w K mg base CX k f fd ps sp ∧ mg x = some (.ref f) ∧ PySem.W.keepIn K (.ref f) = true ∧ Binds K fd ps []
def Dm (P : Program) (w : World) (K : PySem.W.Frag) (mg : Str → Option Value) (base : Heap) (CX : CXT) (k : Nat) (C : Addr) (m : Str) (ps ks : List Str) (sp : Sp) : Prop :=
  ∃ f fd, FnOk P w K mg base CX k f fd ps sp ∧ Meth K C m f ∧ Binds K fd ps [] ∧ KBn K fd ps 1 ks (fun us ws => us ++ ws) (fun vs zs => vs ++ zs)
def Dk (P : Program) (w : World) (K : PySem.W.Frag) (mg : Str → Option Value) (base : Heap) (CX : CXT) (k : Nat) (C : Addr) (x : Str) (ps ks : List Str) (sp : Sp) : Prop :=
  ∃ f fd, FnOk P w K mg base CX k f fd ps sp ∧ Mk K C f ∧ mg x = some (.ref C) ∧ Binds K fd ps [] ∧ KBn K fd ps 1 ks (fun us ws => us ++ ws) (fun vs zs => vs ++ zs)
theorem pA0 {X : Cx} (σ : St) : PassesAt CX0 X σ E0 := fun _ _ _ _ _ _ h => h.elim
theorem pAL {X : Cx} (σ : St) : PassesAt (L2.CX X.prog X.w) X σ E0 := fun pins H s e s' I h => passL pins σ H s e s' I h
section
variable {X : Cx} {CX : CXT} {k : Nat} {C : Addr} {ps ks : List Str} {sp : Sp} {E : St → XK} {x m : Str} {p pos apos : Pos} {e o : Expr} {es : List Expr} {ta : TE} {t tk : TA} {kws : List Keyword}
theorem pe_dn (D : Dn X.prog X.w X.K X.mg X.base CX k x ps sp) (hr : Room k X.A) (hx : ∀ σ, PassesAt CX X σ (E σ)) (ha : PA X (e :: es) t) (hg : Gl X x := by rfl) (hdb : (x == ("__debug__" : Str)) = false := by decide)
    (he : starEach (e :: es) X.env = (false, eval e X.env) :: starEach es X.env := by rfl) (hpl : (backTo pos (starEach es X.env)).any (·.1) = false := by rfl) : PE X (.Call (.Name x p) (e :: es) [] pos) (tCallS sp E t) := by
  obtain ⟨f, fd, F, hm, hk, hb⟩ := D
  exact pe_callS F hr hg hm hk hb hx ha hdb he hpl
def tMethQ (C : Addr) (m : Str) (sp : Sp) (E : St → XK) (ta : TE) (t : TA) : TE := fun σ H Q => ta σ H fun x H1 => ∃ a dx fs, x = .ref a ∧ H1 a = some (.ins C dx fs) ∧ fs.lookup m = none ∧
  t σ H1 fun vs H2 => sp (x :: vs) H2 Q (E σ)
theorem pe_dm {pl : Sem Bool} (D : Dm X.prog X.w X.K X.mg X.base CX k C m ps ks sp) (he : PE X o ta) (c : Cls X.K C) (hr : Room k X.A) (hx : ∀ σ, PassesAt CX X σ (E σ)) (ha : PA X (e :: es) t)
    (hst : starEach (e :: es) X.env = (false, eval e X.env) :: starEach es X.env := by rfl) (hpl : (backTo pos (starEach es X.env)).any (·.1) = false := by rfl)
    (ht : eval (.Call (.Attribute o m apos) (e :: es) [] pos) X.env = (do
      let ov ← eval o X.env
      standAt apos.atName
      let (f, first) ← holding [ov] (getMethod ov m pl)
      callWith pos f first (backTo pos (starEach (e :: es) X.env)) (backToKw pos (keywordEach [] X.env))) := by rfl) :
    PE X (.Call (.Attribute o m apos) (e :: es) [] pos) (tMethQ C m sp E ta t) := by
  obtain ⟨f, fd, F, hm, hb, _⟩ := D
  refine ⟨fun pins s σ H Q I h => ?_⟩
  refine PySem.W.methodCall_KW (pl := pl) (thn (he.run pins s σ H _ I h) fun u s1 ⟨x, H1, I1, rx, a, dx, fs, ex, ea, l, q⟩ => ?_) ht
  subst ex
  obtain rfl : u = Value.ref a := rx
  refine getmeth_ok I1 ea c hm l ?_
  refine PySem.W.callWith_K (first := [.ref a]) (h₀ := X.base) I.ok.mod.kin hm.kp (thn (ha.run pos pins s1 σ H1 _ I1 q) fun us s2 ⟨vs, H2, I2, r, q2⟩ => ⟨I2.kIn, ?_⟩) hst hpl
  exact run_fnS (us := .ref a :: us) (vs := .ref a :: vs) F hr hb (hx σ) I2 (.cons rfl r) q2
theorem pe_dm0 {pl : Sem Bool} (D : Dm X.prog X.w X.K X.mg X.base CX k C m ps ks sp) (he : PE X o ta) (c : Cls X.K C) (hr : Room k X.A) (hx : ∀ σ, PassesAt CX X σ (E σ))
    (ht : eval (.Call (.Attribute o m apos) [] [] pos) X.env = (do
      let ov ← eval o X.env
      standAt apos.atName
      let (f, first) ← holding [ov] (getMethod ov m pl)
      callWith pos f first (backTo pos (starEach [] X.env)) (backToKw pos (keywordEach [] X.env))) := by rfl) :
    PE X (.Call (.Attribute o m apos) [] [] pos) (tMethQ C m sp E ta tNil) := by
  obtain ⟨f, fd, F, hm, hb, _⟩ := D
  refine ⟨fun pins s σ H Q I h => ?_⟩
  refine PySem.W.methodCall_KW (pl := pl) (thn (he.run pins s σ H _ I h) fun u s1 ⟨x, H1, I1, rx, a, dx, fs, ex, ea, l, q⟩ => ?_) ht
  subst ex
  obtain rfl : u = Value.ref a := rx
  refine getmeth_ok I1 ea c hm l ?_
  exact PySem.W.callWith_K0 (first := [.ref a]) I1.kIn hm.kp (run_fnS (us := [.ref a]) (vs := [.ref a]) F hr hb (hx σ) I1 (.cons rfl .nil) q)
/-- o.m(k = v, ..), no exception out -/
theorem pe_dmK {pl : Sem Bool} (D : Dm X.prog X.w X.K X.mg X.base (L2.CX X.prog X.w) k C m ps ks sp) (he : PE X o ta) (c : Cls X.K C) (hr : Room k X.A) (hkw : PK X kws tk)
    (hall : (backToKw pos (keywordEach kws X.env)).all (·.1.isSome) = true := by rfl) (hks : (backToKw pos (keywordEach kws X.env)).filterMap (·.1) = ks := by rfl)
    (hpl : ((backTo pos (starEach [] X.env)).any (·.1) || (backToKw pos (keywordEach kws X.env)).any (·.1.isNone)) = false := by rfl)
    (ht : eval (.Call (.Attribute o m apos) [] kws pos) X.env = (do
      let ov ← eval o X.env
      standAt apos.atName
      let (f, first) ← holding [ov] (getMethod ov m pl)
      callWith pos f first (backTo pos (starEach [] X.env)) (backToKw pos (keywordEach kws X.env))) := by rfl) :
    PE X (.Call (.Attribute o m apos) [] kws pos) (tMethK C m ks.length sp (fun vs zs => vs ++ zs) E0 ta tk) := by
  obtain ⟨f, fd, F, hm, hb, hn⟩ := D
  exact pe_methK he c hm F hr hn passL hkw hall hks hpl ht
def tMakeQ (C : Addr) (sp : Sp) (E : St → XK) (t : TA) : TE := fun σ H Q => t σ H fun vs H1 => ∀ x dx, H1 x = none → H1 dx = none → dx ≠ x →
  sp (.ref x :: vs) (upd (upd H1 dx (.own x)) x (.ins C dx [])) (fun v H2 => v = .non ∧ Q (.ref x) H2) (E σ)
theorem run_makeQ {pins : List (Addr × Obj)} {σ : St} {H : Hp} {s : Shared} {Q : VK} {us : List Value} {vs : List V} {f : Addr} {fd : FuncData} {E : XK} (M : Mk X.K C f) (F : FnOk X.prog X.w X.K X.mg X.base CX k f fd ps sp) (hr : Room (k + 1) X.A) (hb : Binds X.K fd ps [])
    (hx : PassesAt CX X σ E) (I : Inv X pins σ H s) (r : Vals vs us)
    (h : ∀ x dx, H x = none → H dx = none → dx ≠ x → sp (.ref x :: vs) (upd (upd H dx (.own x)) x (.ins C dx [])) (fun v H2 => v = .non ∧ Q (.ref x) H2) E) :
    wpAny (model X.prog X.w) X.A (call (.ref C) us) (EP X pins σ Q) X.xe s := by
  have hq := h (s.heap.objs.size + 1) s.heap.objs.size (I.hok.fresh (Nat.le_succ _)) (I.hok.fresh (Nat.le_refl _)) (Nat.ne_of_lt (Nat.lt_succ_self _))
  have I2 := Inv.made (C := C) I
  have r2 : Vals (V.ref (s.heap.objs.size + 1) :: vs) (Value.ref (s.heap.objs.size + 1) :: us) := .cons rfl r
  have hl : (Value.ref (s.heap.objs.size + 1) :: us).length = ps.length := by
    have e := r2.length
    rw [F.len _ _ _ _ hq] at e
    exact e.symm
  have b := hb _ (Value.ref (s.heap.objs.size + 1) :: us) I2.kIn (by rw [List.append_nil]; exact hl)
  rw [List.append_nil] at b
  refine wpAny_call (make_map (f := f) I.kIn M.makes M.init (beq_iff_eq.mp M.fn) (codeAny_mono (F.run _ X.stack _ _ ⟨Value.ref (s.heap.objs.size + 1) :: us, []⟩ (Value.ref (s.heap.objs.size + 1) :: us) _ _ E (hr.make C us [])
    (I2.env0.make C us []) b r2 hq) fun r s' hq' => ?_))
  cases r with
  | error e => exact hx pins _ _ e s' I2 hq'
  | ok fl =>
    cases fl with
    | ret u =>
      obtain ⟨v, H', I3, rv, ev, q3⟩ := I2.after hq'
      subst ev
      exact ⟨rv, ⟨V.ref (s.heap.objs.size + 1), H', I3, rfl, q3⟩⟩
    | next => exact False.elim hq'
    | brk => exact False.elim hq'
    | cont => exact False.elim hq'
theorem pe_dk (D : Dk X.prog X.w X.K X.mg X.base CX k C x ps ks sp) (hr : Room (k + 1) X.A) (hx : ∀ σ, PassesAt CX X σ (E σ)) (ha : PA X (e :: es) t) (hg : Gl X x := by rfl) (hdb : (x == ("__debug__" : Str)) = false := by decide)
    (he : starEach (e :: es) X.env = (false, eval e X.env) :: starEach es X.env := by rfl) (hpl : (backTo pos (starEach es X.env)).any (·.1) = false := by rfl) :
    PE X (.Call (.Name x p) (e :: es) [] pos) (tMakeQ C sp E t) := by
  obtain ⟨f, fd, F, M, hm, hb, _⟩ := D
  refine ⟨fun pins s σ H Q I h => ?_⟩
  refine wpAny_Call_Name_kw (ld_glob I hg hm ?_ hdb)
  refine PySem.W.callWith_K (h₀ := X.base) I.ok.mod.kin M.kp (thn (ha.run pos pins s σ H _ I h) fun us s1 ⟨vs, H1, I1, r, q⟩ => ⟨I1.kIn, ?_⟩) he hpl
  exact run_makeQ M F hr hb (hx σ) I1 r q
theorem pe_dkK (D : Dk X.prog X.w X.K X.mg X.base (L2.CX X.prog X.w) k C x ps ks sp) (hr : Room (k + 1) X.A) (hkw : PK X kws tk) (hg : Gl X x := by rfl)
    (hall : (backToKw pos (keywordEach kws X.env)).all (·.1.isSome) = true := by rfl) (hks : (backToKw pos (keywordEach kws X.env)).filterMap (·.1) = ks := by rfl) (hdb : (x == ("__debug__" : Str)) = false := by decide)
    (hpl : ((backTo pos (starEach [] X.env)).any (·.1) || (backToKw pos (keywordEach kws X.env)).any (·.1.isNone)) = false := by rfl) :
    PE X (.Call (.Name x p) [] kws pos) (tMakeK C 0 ks.length sp (fun vs zs => vs ++ zs) E0 tNil tk) := by
  obtain ⟨f, fd, F, M, hm, _, hn⟩ := D
  exact pe_makeK0 M F hr hg hm hn passL hkw hall hks hdb hpl
end

/-! ### several except clauses with the same name -/
def wManyAs (K : PySem.W.Frag) (i : Nat) (Wout : WX) (D : Ends) : List (Value × (Addr → Value → Option Addr → TS)) → WX
  | [] => Wout
  | (c, ts) :: r => fun cls d σ H => ∃ b, PySem.W.exmOne K cls c = some b ∧
    (b = true → ∀ a, H a = none → ts a cls d { nx := fun σ' H' => D.nx (σ'.set i none) H', rt := D.rt, bk := fun σ' H' => D.bk (σ'.set i none) H', ct := fun σ' H' => D.ct (σ'.set i none) H' } (σ.set i (some (.ref a))) H) ∧ (b = false → wManyAs K i Wout D r cls d σ H)
inductive HdsAs (X : Cx) (n : Str) : List ExceptHandler → List (Value × (Addr → Value → Option Addr → TS)) → Prop
  | nil : HdsAs X n [] []
  | cons {x : Str} {c : Value} {ts : Addr → Value → Option Addr → TS} {b₀ : Stmt} {suite : List Stmt} {np pos' : Pos} {hds : List ExceptHandler} {l : List (Value × (Addr → Value → Option Addr → TS))} (hc : Names X x c)
      (hsu : ∀ (a : Addr) (oe : Obj) (cls : Value) (d : Option Addr) (pn : List (Addr × Obj)), Zc cls d oe → (∃ vs, oe.data = .fields vs) → PSs (X.suite a ((a, oe) :: pn)) (b₀ :: suite) (ts a cls d)) (r : HdsAs X n hds l) :
      HdsAs X n (.ExceptHandler (some (.Name x np)) (some n) (b₀ :: suite) pos' :: hds) ((c, ts) :: l)
section
variable {X : Cx} {body : List Stmt} {h₀ : ExceptHandler} {hds : List ExceptHandler} {l : List (Value × (Addr → Value → Option Addr → TS))} {pos : Pos} {tb : WX → TS} {Wout : WX} {n : Str} {i : Nat}
theorem ps_try_manyAs (hs : X.stack = X.env :: X.outer) (hf : X.env.frame = some X.env.locals) (hN : X.N.Nodup) (hi : X.N[i]? = some n) (hln : X.env.kindOf n = some .local) (tk : Takes X Wout)
    (hb : ∀ (W : WX) (pn : List (Addr × Obj)) (xe : Value → Shared → Prop), Takes (X.tr pn xe) W → PassesOwn (model X.prog X.w) X.A X.env xe → PSs (X.tr pn xe) body (tb W))
    (hh : HdsAs X n (h₀ :: hds) l) : PS X (.Try body (h₀ :: hds) [] [] pos) (fun D σ H => tb (wManyAs X.K i Wout D l) D σ H) := by
  refine ⟨fun pins s σ H D I h => ?_⟩
  have ok := I.ok
  have hfr : X.A.frames = some (X.env :: X.outer) := by rw [ok.frames, hs]
  have hloc : Loc X.env.scope n := .inl hln
  refine wpAny_Try_except ?_
  refine wpAny_mono ((hb (wManyAs X.K i Wout D l) (X.pn ++ pins) (fun e s₁ => wpAny (model X.prog X.w) X.A (noteFrame e X.env) (fun _ s₂ => wpAny (model X.prog X.w) X.A (setFlight e none) (fun _ s₃ =>
    wpAny (model X.prog X.w) X.A (handleBy e X.env (h₀ :: hds)) (SP X pins D) X.xe s₃) X.xe s₂) X.xe s₁) (fun u s' xx => ?_) PassesOwn.looking).run [] s σ H D (I.toTry _) h) (fun f s1 hsp => ?_) (fun e s1 he => he)
  · -- the catch
    obtain ⟨a, B, sI, pins', σ', H', cls, d, rfl, J', nb, up, sky, na, os, ag, w⟩ := xx
    have J : Inv X pins σ' H' sI := J'.ofTry ok
    have sky' : Sky B (X.env :: X.outer) a (Zc cls d) X.env.locals s'.heap := by rw [← hs]; exact sky
    show wpAny (model X.prog X.w) X.A (noteFrame (.ref a) X.env) _ _ _
    refine Sky.land Zc.steady hfr hf sky' fun h3 fl3 up3 => ?_
    have J3 : Inv X pins σ' H' { s' with heap := h3 } := J.landed nb fl3.1 (up.trans up3) os ag
    obtain ⟨oe3, vs3, he3, hz3, hd3⟩ := fl3.there
    have notFr : ∀ {h : Heap} {o : Obj} {vs : Array Value}, h.FunFrames B (X.env :: X.outer) → h.get? a = some o → o.data = .fields vs → a ∉ frs (X.env :: X.outer) := fun {h o vs} ff e dd hm => by
      obtain ⟨_, o', e', hnf⟩ := ff.mem hm
      rw [e] at e'; cases e'
      exact hnf _ dd
    have nfr := notFr fl3.2.2.1 he3 hd3
    have nL : a ≠ X.env.locals := fun z => nfr (List.mem_filterMap.mpr ⟨X.env, List.mem_cons_self, by rw [hf, z]⟩)
    have nF : a ∉ X.fs := fun hm => by
      obtain ⟨e, he, q⟩ := List.mem_filterMap.mp hm
      exact nfr (List.mem_filterMap.mpr ⟨e, List.mem_cons_of_mem _ he, q⟩)
    have S3 := J3.suite he3 hd3 na nL nF
    have go : ∀ {hds' : List ExceptHandler} {l' : List (Value × (Addr → Value → Option Addr → TS))}, HdsAs X n hds' l' → wManyAs X.K i Wout D l' cls d σ' H' →
        wpAny (model X.prog X.w) X.A (handleBy (.ref a) X.env hds') (SP X pins D) X.xe { s' with heap := h3 } := by
      intro hds' l' hk
      induction hk with
      | nil =>
        intro w
        refine wpAny_handleBy_nil ?_
        obtain ⟨k1, k2, k3, oe, vs, T, oT, ts', he, hz, hd, h1, hr⟩ := id fl3
        unfold PySem.passOn
        refine wpAny_bind (wpAny_field he hd h1 ?_)
        rw [if_neg (show ¬ ((Value.ref T == Value.none) = true) from by simp)]
        have fin : wpAny (model X.prog X.w) X.A (setFlight (.ref a) X.env.frame) (fun _ s4 => wpAny (model X.prog X.w) X.A (throw (.ref a) : Sem Flow) (SP X pins D) X.xe s4) X.xe { s' with heap := h3 } := by
          rw [hf]
          refine HandSPX.setFlight_upZ fl3 fun h4 hh4 up4 => wpAny_throw (tk _ _ ?_)
          exact ⟨a, B, sI, pins, σ', H', cls, d, rfl, J, nb, (up.trans up3).trans up4, .inr (.inr (by rw [hs]; exact hh4)), na, os, ag, w⟩
        first
          | exact wpAny_bind (wpAny_pure (wpAny_bind fin))
          | exact wpAny_bind fin
      | @cons x c ts b₀ suite np pos' hds2 l2 hc hsu r ih =>
        intro w
        obtain ⟨b, hb1, hyes, hno⟩ := w
        refine wpAny_handleBy_cons (codeAny_handlers_test ?_) (by intro q; cases q)
        have LT : PySem.W.Looks (model X.prog X.w) h3 (typeOf (.ref a)) cls := fun A Q E s k q => wpAny_typeOf_ref (k _ _ he3) (by rw [hz3.1]; exact q)
        have LM := PySem.W.exm_one (M := model X.prog X.w) (J3.kIn) LT hb1
        have test : ∀ {Q : Value → Shared → Prop} {E : Value → Shared → Prop}, Q c { s' with heap := h3 } → wpAny (model X.prog X.w) (X.A.mark (some (.ref a))) (eval (.Name x np) X.env) Q E { s' with heap := h3 } := fun {Q E} q => by
          obtain ⟨hg, hdbg, hm | ⟨hm, hv, hnn⟩⟩ := hc
          · exact ld_glob (X := X.suite a ((a, oe3) :: (X.pn ++ pins))) S3 hg hm q hdbg
          · exact ld_blt (X := X.suite a ((a, oe3) :: (X.pn ++ pins))) S3 hg hm hv q hnn hdbg
        refine test (LM.here ?_)
        cases b with
        | true =>
          refine codeAny_handlers_suite_as ?_
          refine HandSPX.lands_againZ fl3 fun h4 fl4 up4 => ?_
          have J4 : Inv X pins σ' H' { s' with heap := h4 } := J.landed nb fl4.1 ((up.trans up3).trans up4) os ag
          obtain ⟨oe4, vs4, he4, hz4, hd4⟩ := fl4.there
          have S4 := J4.suite he4 hd4 na nL nF
          refine store_ok (X := X.suite a ((a, oe4) :: (X.pn ++ pins))) (v := .ref a) S4 hN hi hloc rfl (fun s5 S5 => ?_) (.inr hln)
          refine wpAny_mono ((hsu a oe4 cls d (X.pn ++ pins) hz4 ⟨_, hd4⟩).run [] s5 _ H' _ S5 (hyes rfl a na)) (fun f s6 hsp => ?_) (fun _ _ z => False.elim z)
          have end_ : ∀ {σ6 : St} {H6 : Hp} {Q : Shared → Prop}, Inv (X.suite a ((a, oe4) :: (X.pn ++ pins))) [] σ6 H6 s6 → (∀ s7, Inv X pins (σ6.set i none) H6 s7 → Q s7) →
              wpAny (model X.prog X.w) X.A (do bindName X.env n .none; unbindBehindTheSuite X.env n pos') (fun _ s7 => Q s7) X.xe s6 := fun {σ6 H6 Q} S6 hq => gone_ok (S6.unsuite ok) hN hi hln hq
          cases f with
          | next =>
            obtain ⟨σ6, H6, S6, q6⟩ := hsp
            exact end_ S6 fun s7 J7 => ⟨_, _, J7, q6⟩
          | brk =>
            obtain ⟨σ6, H6, S6, q6⟩ := hsp
            exact end_ S6 fun s7 J7 => ⟨_, _, J7, q6⟩
          | cont =>
            obtain ⟨σ6, H6, S6, q6⟩ := hsp
            exact end_ S6 fun s7 J7 => ⟨_, _, J7, q6⟩
          | ret u =>
            obtain ⟨v6, σ6, H6, S6, r6, q6⟩ := hsp
            exact end_ S6 fun s7 J7 => ⟨_, _, _, J7, r6, q6⟩
        | false =>
          show wpAny _ X.A (handleBy (.ref a) X.env hds2) _ _ _
          exact ih (hno rfl)
    exact go hh w
  · cases f with
    | next =>
      obtain ⟨σ', H', J', q⟩ := hsp
      exact wpAny_execs_nil ⟨σ', H', J'.ofTry ok, q⟩
    | brk =>
      obtain ⟨σ', H', J', q⟩ := hsp
      exact ⟨σ', H', J'.ofTry ok, q⟩
    | cont =>
      obtain ⟨σ', H', J', q⟩ := hsp
      exact ⟨σ', H', J'.ofTry ok, q⟩
    | ret u =>
      obtain ⟨v, σ', H', J', r, q⟩ := hsp
      exact ⟨v, σ', H', J'.ofTry ok, r, q⟩
end
end L2
end
section
set_option Elab.async false
set_option linter.all false
set_option maxRecDepth 100000
set_option maxHeartbeats 4000000
/-! K8: dict(zip(list, tuple)), list(d.keys()) of a dict with tuple keys. -/
namespace L2
open PySem PySem.Spec PyProof.Rows
def tDictZip (K : PySem.W.Frag) (ta : TA) : TE := fun σ H Q => ta σ H fun vs H2 => ∃ (a t : Addr) (bs : List Addr) (ks : List (List Key)) (ys : List V), vs = [.ref a, .ref t] ∧ SqL K H2 a (bs.map V.ref) ∧ SqT K H2 t ys ∧ ks.length = bs.length ∧ ys.length = bs.length ∧
  (∀ (i : Nat) (k : List Key) (b : Addr), ks[i]? = some k → bs[i]? = some b → H2 b = some (.tup (k.map kV))) ∧ ks.Nodup ∧ ∀ p, H2 p = none → Q (.ref p) (upd H2 p (.dT (ks.zip ys)))
theorem sys_new {n : Nat} (h : sysModules < n) : (n == sysModules) = false := beq_eq_false_iff_ne.mpr (Nat.ne_of_gt h)
theorem kt_zip {H : Hp} : ∀ {ks : List (List Key)} {bs : List Addr} {ys : List V} {us : List Value}, ks.length = bs.length → ys.length = bs.length → Vals ys us →
    (∀ (i : Nat) (k : List Key) (b : Addr), ks[i]? = some k → bs[i]? = some b → H b = some (.tup (k.map kV))) →
    Paired (fun (p : List Key × V) (q : List Key × Addr × Value) => p.1 = q.1 ∧ H q.2.1 = some (.tup (p.1.map kV)) ∧ RelV p.2 q.2.2) (ks.zip ys) (ks.zip (bs.zip us))
  | [], bs, ys, us, l1, l2, r, h => by
    simp
    exact .nil
  | k :: ks, [], _, _, l1, _, _, _ => by cases l1
  | k :: ks, b :: bs, [], _, _, l2, _, _ => by cases l2
  | k :: ks, b :: bs, y :: ys, _, l1, l2, .cons r rr, h => by
    refine .cons ⟨rfl, h 0 k b rfl rfl, r⟩ (kt_zip (Nat.succ.inj l1) (Nat.succ.inj l2) rr fun i k' b' h1 h2 => h (i + 1) k' b' h1 h2)
theorem keys_zip {α β : Type} : ∀ (ks : List α) (ys : List β), ks.length ≤ ys.length → (ks.zip ys).map (·.1) = ks
  | [], _, _ => by simp
  | k :: ks, [], h => by simp at h
  | k :: ks, y :: ys, h => by simp [keys_zip ks ys (by simpa using h)]
theorem vals_refs_eq : ∀ {bs : List Addr} {us : List Value}, Vals (bs.map V.ref) us → us = bs.map Value.ref
  | [], _, .nil => rfl
  | b :: bs, _, .cons r rr => by
    cases r
    rw [vals_refs_eq rr]
    rfl
theorem pe_dictZip {X : Cx} {e e2 : Expr} {ta : TA} {p pos p2 pos2 : Pos} (hc : X.calm = true) (hu : X.A.units + 8 < cLine) (hm : X.mg "dict" = none) (hm2 : X.mg "zip" = none) (ha : PA X [e, e2] ta) (hg : Gl X "dict" := by rfl) (hg2 : Gl X "zip" := by rfl)
    (hs1 : starEach [.Call (.Name "zip" p2) [e, e2] [] pos2] X.env = (false, eval (.Call (.Name "zip" p2) [e, e2] [] pos2) X.env) :: starEach [] X.env := by rfl)
    (hs : starEach [e, e2] X.env = (false, eval e X.env) :: starEach [e2] X.env := by rfl) (hpl : (backTo pos2 (starEach [e2] X.env)).any (·.1) = false := by rfl) :
    PE X (.Call (.Name "dict" p) [.Call (.Name "zip" p2) [e, e2] [] pos2] [] pos) (tDictZip X.K ta) := by
  refine ⟨fun pins s σ H Q I h => ?_⟩
  refine wpAny_Call_Name_kw (ld_blt I hg hm PyProof.Rows.boot_dict (PyProof.Rows.callWith_type1 ?_ hs1 rfl) (by decide) (by decide))
  rw [hs1]
  show wpAny _ _ (spliced ((false, eval (.Call (.Name "zip" p2) [e, e2] [] pos2) X.env) :: backTo pos (starEach [] X.env))) _ _ s
  refine Calls.spliced_cons (wpAny_Call_Name_kw (ld_blt I hg2 hm2 PyProof.Rows.boot_zip (PyProof.Rows.callWith_type1 (thn (ha.run pos2 pins s σ H _ I h) fun us s1 ⟨vs, H1, I1, r1, q1⟩ => ?_) hs hpl) (by decide) (by decide)))
  obtain ⟨a, t, bs, ks, ys, ex, hqx, hqy, l1, l2, hk, hnd, q⟩ := q1
  subst ex
  cases r1 with
  | cons r rr =>
    cases rr with
    | cons r' rr =>
      cases rr
      cases r
      cases r'
      obtain ⟨its, rv, p1, z1⟩ := I1.list hqx
      obtain ⟨its2, rv2, p2', z2⟩ := I1.tuple hqy
      have la : a < s1.heap.objs.size := p1.lt
      have lt : t < s1.heap.objs.size := p2'.lt
      have eits : its = bs.map Value.ref := vals_refs_eq rv
      have hln : its2.toArray.size = its.toArray.size := by
        rw [List.size_toArray, List.size_toArray, ← rv2.length, l2, eits, List.length_map]
      have hbl : ∀ (i : Nat) (b : Addr), bs[i]? = some b → b < s1.heap.objs.size := fun i b hb => by
        have hi := (List.getElem?_eq_some_iff.mp hb).1
        obtain ⟨k, hk'⟩ : ∃ k, ks[i]? = some k := ⟨ks[i]'(by omega), by simp⟩
        exact I1.hok.lt (hk i k b hk' hb)
      have pT : s1.heap.IsTuple t its2.toArray := p2'
      refine zip_begins2 (begins_list a its.toArray) (begins_tuple t its2.toArray) p1.isList pT fun h' hz hTI hTO h1 h2 hsz hk2 => ?_
      have D1 : ∀ A : Around, A.handled = none → Draws X.prog X.w A s1.heap.objs.size [s1.heap.objs.size, a] its.toArray.size (fun i v => its.toArray[i]? = some v) (fun i h => h.IsListIter s1.heap.objs.size a i ∧ h.IsList a its.toArray) := fun A hA => Draws.list hA _ _ (Nat.ne_of_lt la) _
      have D2 : ∀ A : Around, A.handled = none → Draws X.prog X.w A (s1.heap.objs.size + 1) [s1.heap.objs.size + 1, t] its.toArray.size (fun i v => its2.toArray[i]? = some v) (fun i h => h.IsTupleIter (s1.heap.objs.size + 1) t i ∧ h.IsTuple t its2.toArray) := fun A hA => hln ▸ Draws.tuple hA _ _ (Nat.ne_of_lt (Nat.lt_succ_of_lt lt)) _
      have P := PairArg.zipS (sep_new s1.heap.objs.size a t la lt) D1 D2 (fun i h st b hb => by
        rcases List.mem_cons.mp hb with e | hb
        · rw [e]; obtain ⟨o, ho, _⟩ := st.1; exact ⟨o, ho⟩
        · rcases List.mem_cons.mp hb with e | hb
          · rw [e]; obtain ⟨o, ho, _⟩ := st.2; exact ⟨o, ho⟩
          · cases hb) (fun i h st b hb => by
        rcases List.mem_cons.mp hb with e | hb
        · rw [e]; obtain ⟨o, ho, _⟩ := st.1; exact ⟨o, ho⟩
        · rcases List.mem_cons.mp hb with e | hb
          · rw [e]; obtain ⟨o, ho, _⟩ := st.2; exact ⟨o, ho⟩
          · cases hb)
      have hnp : ((ks.zip (bs.zip its2)).map (·.1)) = ks := keys_zip _ _ (by rw [List.length_zip, ← rv2.length]; omega)
      refine Calls.spliced_nil ?_
      refine call_dict_pairsH (knd := tupleKind (mixKind X.prog X.w)) (ps := ks.zip (bs.zip its2)) P (I1.ok.hd hc) ?_ ⟨hz, ⟨_, _, hz, .inl rfl⟩, hTI, ⟨_, _, hTO⟩, ⟨⟨_, h1, rfl, rfl⟩, p1.isList.at fun o e => hk2 _ _ e⟩, ⟨_, h2, rfl, rfl⟩, pT.at fun o e => hk2 _ _ e⟩ ⟨?_, fun i key v hr => ?_⟩ (fun h'' hkk x hx => ?_) ?_ fun h'' tk hd hkk => ?_
      · show X.A.in1.in1.units < cLine
        show X.A.units + 1 + 1 < cLine
        omega
      · rw [List.length_zip, List.length_zip, ← rv2.length, List.size_toArray, eits, List.length_map]
        omega
      · obtain ⟨r1, r2⟩ := hr
        rw [eits] at r1
        have r1' : (bs.map Value.ref)[i]? = some key := by simpa using r1
        rw [List.getElem?_map] at r1'
        cases hb : bs[i]? with
        | none => rw [hb] at r1'; cases r1'
        | some b =>
          rw [hb] at r1'
          cases r1'
          have hi := (List.getElem?_eq_some_iff.mp hb).1
          have hk3 : ks[i]? = some (ks[i]'(by omega)) := by simp
          have r2' : its2[i]? = some v := by simpa using r2
          refine ⟨ks[i]'(by omega), b, ?_, rfl⟩
          rw [List.getElem?_zip_eq_some, List.getElem?_zip_eq_some]
          exact ⟨hk3, hb, r2'⟩
      · obtain ⟨i, hi⟩ := List.mem_iff_getElem?.mp hx
        obtain ⟨k, b, v⟩ := x
        obtain ⟨e1, e2⟩ := List.getElem?_zip_eq_some.mp hi
        obtain ⟨e3, e4⟩ := List.getElem?_zip_eq_some.mp e2
        have hb := hbl i b e3
        obtain ⟨ov, iv, nv, hov, hcv, hdv, hiv⟩ := (show IsTupleKey (mixKind X.prog X.w) s1.heap k b from key_of I1.hok (hk i k b e1 e3))
        refine ⟨ov, iv, nv, hkk b ov (Nat.ne_of_lt (show b < h'.objs.size from by rw [hsz]; exact Nat.lt_of_lt_of_le hb (Nat.le_add_right _ 5))) (fun hm => ?_) (hk2 _ _ hov), hcv, hdv, hiv⟩
        have e' : b = s1.heap.objs.size + 4 ∨ b = s1.heap.objs.size + 3 ∨ b = s1.heap.objs.size ∨ b = s1.heap.objs.size + 1 := by simpa using hm
        have hb' : (b : Nat) < s1.heap.objs.size := hb
        exact absurd hb' (by rcases e' with q | q | q | q <;> rw [q] <;> simp)
      · have := z1
        rw [List.size_toArray, eits, List.length_map]
        rw [List.length_map] at this
        exact this
      · rw [storedAllH_nil_of_nodup _ (by rw [hnp]; exact hnd)] at hd
        obtain ⟨o, es, ep, g1, g2, g3, g4, g5, g6⟩ := hd
        have hsz' : h'.objs.size = s1.heap.objs.size + 5 := hsz
        have kp : ∀ c o, s1.heap.get? c = some o → h''.get? c = some o := fun c o e => hkk c o (fun hm => by
          have hc' : (c : Nat) < s1.heap.objs.size := Heap.lt_size e
          have e' : c = s1.heap.objs.size + 4 ∨ c = s1.heap.objs.size + 3 ∨ c = s1.heap.objs.size ∨ c = s1.heap.objs.size + 1 := by simpa using hm
          exact absurd hc' (by rcases e' with q | q | q | q <;> rw [q] <;> simp)) (hk2 _ _ e)
        have hle : s1.heap.objs.size ≤ h'.objs.size := by rw [hsz']; exact Nat.le_add_right _ _
        have fr : H1 h'.objs.size = none := I1.hok.fresh hle
        refine ⟨.ref h'.objs.size, upd H1 h'.objs.size (.dT (ks.zip ys)), I1.laid (t' := tk) kp hle ?_, rfl, q _ fr⟩
        refine ⟨?_, sys_new (Nat.lt_of_lt_of_le I1.big hle), ks.zip (bs.zip its2), ?_, o, es, ep, g1, g2, g3, g4, g6⟩
        · rw [List.length_zip]
          rw [List.length_map] at z1
          omega
        · refine kt_zip l1 l2 rv2 fun i k b h1 h2 => ?_
          have e := hk i k b h1 h2
          rw [upd_ne (ne_of_none e fr)]
          exact e

/-! ### list(d.keys()) -/
section
open PySem.W
variable {prog : Program} {w : World} {A : Around} {E : Value → Shared → Prop} {s : Shared} {d : Addr} {o : Obj} {es : Array DictEntry} {ep : Nat}
theorem keys_raw (d : Addr) (hd : (d == sysModules) = false) :
    MeetsIn prog w (Builtin.«dict.keys» ⟨[.ref d], []⟩) (fun _ R s => s.TypeIs (.ref d) "dict" ∧
      R (.ok (.ret (.ref s.heap.objs.size))) { s with heap := s.heap.push { cls := .type "dict_keys", data := .fields #[.ref d] } }) :=
  .of_wp fun A R s ⟨hm, h⟩ => by
    refine wpAny_bind ?_
    unfold Builtin.Dict.noArgs
    refine wpAny_bind (wpAny_notOrdered_dict hm ?_)
    show wpAny _ _ (pure d) _ _ s
    refine wpAny_pure ?_
    show wpAny _ _ (Builtin.Dict.showsAll d >>= _) _ _ s
    unfold Builtin.Dict.showsAll
    rw [if_neg (by rw [hd]; exact Bool.false_ne_true)]
    refine wpAny_bind (wpAny_pure ?_)
    exact wpAny_bind (wpAny_newObj_type (wpAny_pure ⟨_, rfl, h⟩))
theorem pyIter_keys_raw {v : Addr} {Q : Value → Shared → Prop} (hv : KdlKeysView s.heap v d) (ho : s.heap.get? d = some o) (hdat : o.data = .dict es ep)
    (hQ : Q (.ref s.heap.objs.size) { s with heap := s.heap.push { cls := .type "dict_keyiterator", data := .fields #[.ref d, .int 0 0, .int es.size 0, .int ep 0] } }) :
    wpAny (model prog w) A (pyIter (.ref v)) Q E s := by
  obtain ⟨ov, hov, hcv, hdv⟩ := id hv
  refine wpAny_pyIter_slot hv.typeIs kdl_slot_keys_iter (wpAny_call_entry kdl_slot_keys_iter hv.typeIs kdl_entry_keys_iter ?_ (kdl_args_keys_iter _))
  unfold Builtin.«dict_keys.__iter__»
  refine wpAny_bind (wpAny_pure ?_)
  refine wpAny_bind ?_
  unfold Builtin.Dict_items.dictOf
  refine wpAny_bind (wpAny_field hov hdv (x := .ref d) rfl (wpAny_pure ?_))
  refine wpAny_bind ?_
  unfold Builtin.Dict_items.newIterator
  refine wpAny_bind (wpAny_dictEntries ho hdat ?_)
  refine wpAny_bind (wpAny_dictEpoch ho hdat ?_)
  have hown : Builtin.Dict_items.ownsTuple "dict_keyiterator" = false := by decide
  simp only [hown, Bool.false_eq_true, if_false]
  refine wpAny_newObj_type (wpAny_pure ⟨_, rfl, "dict_keyiterator", _, ⟨_, Heap.get?_push_size _ rfl, rfl⟩, PySem.F.slot_dict_keyiterator_next.lookup, ?_⟩)
  simpa [rawInt] using hQ
theorem kdl_keysV {r d : Addr} (hdat : o.data = .dict es ep) :
    KdlSrc prog w "dict_keys" r d es.size (fun i v => ∃ en : DictEntry, es[i]? = some en ∧ v = en.key) (fun h => KdlKeysView h r d ∧ h.get? d = some o) where
  type := fun _ hm => hm.1.typeIs
  there := fun _ hm => ⟨let ⟨_, ho, _⟩ := hm.1; Heap.lt_size ho, Heap.lt_size hm.2⟩
  keep := fun _ _ hm hk => ⟨let ⟨o, ho, x⟩ := hm.1; ⟨o, hk r (.inl rfl) o ho, x⟩, hk d (.inr rfl) _ hm.2⟩
  notList := by decide
  notTuple := by decide
  hint := fun _ _ _ _ hm hq => kdl_hint_keys hm.1.typeIs hq
  iter := fun _ _ hh hm => ⟨_, _, (fun _ _ hq => pyIter_keys_raw hm.1 hm.2 hdat hq), walks_raw hh _ d (Nat.ne_of_lt (Heap.lt_size hm.2)) hdat, ⟨⟨_, Heap.get?_push_size _ rfl, rfl, rfl⟩, Heap.get?_push_of_some _ hm.2⟩⟩
end
section
variable {X : Cx} {e : Expr} {td : TE} {p pos apos cpos : Pos}
def tListKeys (td : TE) : TE := fun σ H Q => td σ H fun x H1 => ∃ d kvs, x = .ref d ∧ H1 d = some (.dT kvs) ∧ ∀ p bs, H1 p = none → IsKeys H1 kvs bs → Q (.ref p) (upd H1 p (.lst (bs.map V.ref)))
theorem pe_listKeys (hc : X.calm = true) (hm : X.mg "list" = none) (he : PE X e td) (hg : Gl X "list" := by rfl) (hbase : attributeBase e "keys" X.env (eval e X.env) = eval e X.env := by rfl) (hline : (apos.endLine == cpos.line) = true := by rfl)
    (hs1 : starEach [.Call (.Attribute e "keys" apos) [] [] cpos] X.env = (false, eval (.Call (.Attribute e "keys" apos) [] [] cpos) X.env) :: starEach [] X.env := by rfl) :
    PE X (.Call (.Name "list" p) [.Call (.Attribute e "keys" apos) [] [] cpos] [] pos) (tListKeys td) := by
  refine ⟨fun pins s σ H Q I h => ?_⟩
  refine wpAny_Call_Name_kw (ld_blt I hg hm PyProof.Rows.boot_list (PyProof.Rows.callWith_type1 ?_ hs1 rfl) (by decide) (by decide))
  rw [hs1]
  show wpAny _ _ (spliced ((false, eval (.Call (.Attribute e "keys" apos) [] [] cpos) X.env) :: backTo pos (starEach [] X.env))) _ _ s
  refine Calls.spliced_cons ?_
  refine wpAny_Call_method (T := "dict") (id := "dict.keys") hbase rfl hline PySem.F.plainAttrs_dict PySem.F.slot_dict_keys PySem.F.type_dict_keys (thn (he.run pins s σ H _ I h) fun u s1 ⟨x, H1, I1, rx, d, kvs, ex, hd, q⟩ => ?_)
  subst ex
  obtain rfl : u = Value.ref d := rx
  obtain ⟨z, hs, ks, pr, o, es, ep, ho, hx, hdt, het, hn⟩ := (show ObjOk X.prog X.w H1 s1.heap d (.dT kvs) from I1.hok d _ hd)
  have l1 : es.size = ks.length := size_of_entries het
  have l2 : kvs.length = ks.length := Paired.length pr
  have hT : s1.TypeIs (.ref d) "dict" := ⟨o, ho, hx.1⟩
  refine ⟨hT, fun b q => ?_, ?_⟩
  · cases q
    exact ⟨o, ho, hx.2.1⟩
  show wpAny _ _ (callWith cpos (.builtin "dict.keys") [.ref d] [] []) _ X.xe s1
  refine method_meetsIn PySem.F.slot_dict_keys PySem.F.entry_dict_keys rfl (PySem.evalArgs_none ⟨rfl, hT, PySem.F.args_dict_keys_1 _, _, keys_raw d hs, hT, ?_⟩)
  refine Calls.spliced_nil ?_
  have hv : PySem.W.KdlKeysView (s1.heap.push { cls := .type "dict_keys", data := .fields #[.ref d] }) s1.heap.objs.size d := ⟨_, Heap.get?_push_size _ rfl, rfl, rfl⟩
  have ho2 : (s1.heap.push { cls := .type "dict_keys", data := .fields #[.ref d] }).get? d = some o := Heap.get?_push_of_some _ ho
  refine PySem.W.kdl_call (kdl_keysV hdt) (I1.ok.hd hc) ⟨hv, ho2⟩ (by omega) fun h' tk acc' c' kp e it => ?_
  have ea : acc'.toList = ks.map fun x => Value.ref x.2.1 := by
    have hl : acc'.toList.length = ks.length := by rw [Array.length_toList, it.1]; exact l1
    apply List.ext_getElem?
    intro j
    rw [List.getElem?_map]
    cases hj : acc'.toList[j]? with
    | none =>
      have h1 := List.getElem?_eq_none_iff.mp hj
      rw [List.getElem?_eq_none (by omega)]
      all_goals rfl
    | some v =>
      obtain ⟨en, hen, hv⟩ := it.2 j v (by rw [← Array.getElem?_toList]; exact hj)
      have qe := entry_at het j
      rw [hen] at qe
      cases hb : ks[j]? with
      | none =>
        rw [hb] at qe
        exact nomatch (show some en = none from qe)
      | some b =>
        rw [hb] at qe
        have e2 : en = entryOfKey (tupleKind (mixKind X.prog X.w)) b := Option.some.inj qe
        rw [hv, e2]
        all_goals rfl
  have eb : acc'.toList = (ks.map fun x => x.2.1).map Value.ref := by rw [ea, List.map_map]; all_goals rfl
  have rv : Vals ((ks.map fun x => x.2.1).map V.ref) acc'.toList := by rw [eb]; exact vals_refs _
  have hz : ((ks.map fun x => x.2.1).map V.ref).length ≤ sizeLine := by rw [List.length_map, List.length_map]; omega
  have hsz : s1.heap.objs.size ≤ (s1.heap.push { cls := .type "dict_keys", data := .fields #[.ref d] }).objs.size := by rw [Heap.size_push]; exact Nat.le_succ _
  refine ⟨.ref _, _, I1.laid (t' := tk) (o := .lst ((ks.map fun x => x.2.1).map V.ref)) (fun b u q => kp b u (Heap.get?_push_of_some _ q)) hsz ?_, rfl, q _ _ (I1.hok.fresh hsz) (isKeys_of pr)⟩
  exact ⟨hz, acc'.toList, c', rv, by rw [Array.toArray_toList]; exact e⟩
end
end L2
end
section
set_option Elab.async false
set_option linter.all false
set_option maxRecDepth 100000
set_option maxHeartbeats 4000000
/-! K9: comparisons by length and by identity; tuple * 1. -/
namespace L2
open PySem PySem.Spec PyProof.Rows
section
variable {X : Cx}
/-- xs != [] -/
def rNeNil (K : PySem.W.Frag) : R2 := fun x y H Q => ∃ a b xs, x = .ref a ∧ y = .ref b ∧ SqL K H a xs ∧ SqL K H b [] ∧ Q (.bl (!xs.isEmpty)) H
theorem op_neNil (hu : X.A.units < cLine) : OpR X (compareOp .NotEq) (rNeNil X.K) := by
  intro pins s σ H x y v u Q I rx ry h
  obtain ⟨a, b, xs, rfl, rfl, ha, hb, q⟩ := h
  cases rx
  cases ry
  obtain ⟨us, r1, p1, _⟩ := I.list ha
  obtain ⟨ws, r2, p2, _⟩ := I.list hb
  cases r2
  cases xs with
  | nil =>
    cases r1
    have k := SeqAt.RcNeAt.lists (A := X.A) (s := s) (e := fun _ => true) p1.isList p2.isList rfl hu (fun j h1 h2 => absurd h1 (by simp))
    exact k _ _ _ _ ⟨.bl false, H, I, rfl, q⟩
  | cons y ys =>
    cases r1 with
    | cons ru rr =>
      have k := SeqAt.RcNeAt.lists_lengths (A := X.A) (s := s) p1.isList p2.isList (by simp) hu
      exact k _ _ _ _ ⟨.bl true, H, I, rfl, q⟩
/-- two tuples of the same objects: != -/
def rNeSame (K : PySem.W.Frag) : R2 := fun x y H Q => ∃ (a b : Addr) (xs : List Addr), x = .ref a ∧ y = .ref b ∧ SqT K H a (xs.map V.ref) ∧ SqT K H b (xs.map V.ref) ∧ Q (.bl false) H
theorem refs_ofV : ∀ {bs : List Addr} {us : List Value}, Vals (bs.map V.ref) us → us = bs.map Value.ref
  | [], _, .nil => rfl
  | b :: bs, _, .cons r rr => by
    cases r
    rw [refs_ofV rr]
    rfl
theorem op_neSame (hu : X.A.units < cLine) : OpR X (compareOp .NotEq) (rNeSame X.K) := by
  intro pins s σ H x y v u Q I rx ry h
  obtain ⟨a, b, xs, rfl, rfl, ha, hb, q⟩ := h
  cases rx
  cases ry
  obtain ⟨us, r1, p1, _⟩ := I.tuple ha
  obtain ⟨ws, r2, p2, _⟩ := I.tuple hb
  have e1 := refs_ofV r1
  have e2 := refs_ofV r2
  subst e1 e2
  have k := SeqAt.RcNeAt.tuples (A := X.A) (s := s) (l := a) (b := b) (e := fun _ => true) p1 p2 hu (fun j h1 h2 => SeqAt.EqAt.same _)
  refine k _ _ _ _ ?_
  have e : (!((List.range (min (xs.map Value.ref).toArray.size (xs.map Value.ref).toArray.size)).all (fun _ => true) && (xs.map Value.ref).toArray.size == (xs.map Value.ref).toArray.size)) = false := by simp
  rw [e]
  exact ⟨.bl false, H, I, rfl, q⟩
/-- x not in t, t a tuple of data -/
def rNotInT (K : PySem.W.Frag) : R2 := fun x y H Q => ∃ d ds, Dp K H x d ∧ Dp K H y (.tuple ds) ∧ SeqAt.shaped d = true ∧ SeqAt.shaped (.tuple ds) = true ∧ Q (.bl (!ds.any fun z => PyData.eqv z d)) H
theorem op_notInT (hu : X.A.units + 65 < cLine) : OpR X (compareOp .NotIn) (rNotInT X.K) := by
  intro pins s σ H x y v u Q I rx ry h
  obtain ⟨d, ds, hd, he, sd, se, q⟩ := h
  obtain ⟨as, r1⟩ := Dp.reads I d x v hd rx
  obtain ⟨bs, r2⟩ := Dp.reads I (.tuple ds) y u he ry
  exact SeqAt.notIn_tuple_reads r2 r1 (SeqAt.canLay_of_shaped se) (SeqAt.canLay_of_shaped sd) (room_in_shaped sd hu) ⟨.bl _, H, I, rfl, q⟩
end
theorem tuple_mulO (l : Addr) (items : Array Value) (n : Nat) (dd : Option Addr) (sl : Array (Option Value)) (u : Tok) :
    Meets (Builtin.«tuple.__mul__» ⟨[.ref l, .int 1 u], []⟩) (fun _ R s => s.heap.get? l = some { cls := .type "tuple", dict := dd, data := .seq items n, slots := sl } ∧ R (.ok (.ret (Value.ref l))) s) :=
  .of_wp fun prog w A R s h => by
    obtain ⟨hp, g, d, tk, os⟩ := s
    obtain ⟨hl, h⟩ := h
    have f1 := AutoSeq1.idx_int
    wp_walk using wpAny_loadPart' hl
    exact ⟨_, rfl, h⟩
/-- t * k, k at least 1 -/
def rRepU (K : PySem.W.Frag) : R2 := fun x y H Q => ∃ l k xs, x = .ref l ∧ y = .int k ∧ SqT K H l xs ∧ xs ≠ [] ∧ 1 ≤ k ∧ k ≤ 1000 ∧ xs.length ≤ 1000 ∧ (k = 1 → Q (.ref l) H) ∧ (2 ≤ k → ∀ p, H p = none → Q (.ref p) (upd H p (.tup (List.replicate k.toNat xs).flatten)))
section
variable {X : Cx}
theorem op_repU : OpR X (binaryOp .Mult) (rRepU X.K) := by
  intro pins s σ H x y v u Q I rx ry h
  obtain ⟨l, k, xs, rfl, rfl, hT, hne, h1, h2, hz, q1, q2⟩ := h
  by_cases hk : k = 1
  · subst hk
    cases rx
    obtain ⟨t, rfl⟩ := ry
    obtain ⟨its, r, ⟨⟨cls, dd, data, sl⟩, ho, hc, n, hd⟩, hs⟩ := I.tuple hT
    simp only at hc hd
    subst hc hd
    refine wpAny_binaryOp_repeat_ref (T := "tuple") (U := "int") (by decide) ⟨_, ho, rfl⟩ (fun s' => typeIs_int s' 1 t) noFill_tuple_mul F.fills_int_mul F.slot_int_rmul repeat_tuple F.slot_int_index.lookup
      (call_meets F.slot_int_rmul (typeIs_int s 1 t) F.entry_int_rmul (F.args_int_rmul_2 _ _) (int_rmul_tuple 1 t l its.toArray n dd sl)
        ⟨ho, rfl, ⟨_, ho, rfl⟩, call_meets F.slot_tuple_mul ⟨_, ho, rfl⟩ F.entry_tuple_mul (F.args_tuple_mul_2 _ _) (tuple_mulO l its.toArray n dd sl t) ⟨ho, ?_⟩⟩)
    exact ⟨.ref l, H, I, rfl, q1 rfl⟩
  · exact op_repT pins s σ H _ _ v u Q I rx ry ⟨l, k, xs, rfl, rfl, hT, hne, by omega, h2, hz, q2 (by omega)⟩
end
end L2
end
section
set_option Elab.async false
set_option linter.all false
set_option maxRecDepth 100000
set_option maxHeartbeats 4000000
/-! K10: the text by places, what the top has written, small rules. -/
namespace L2
open PySem PySem.Spec PyProof.Rows
def iSeq (K : PySem.W.Frag) (tl : TE) : TI := fun σ H R => tl σ H fun x H1 => ∃ a, x = .ref a ∧ (((∃ xs, SqL K H1 a xs) ∧ R (Itl K a) H1) ∨ ((∃ xs, SqT K H1 a xs) ∧ R (Itt K a) H1))
def Sq (K : PySem.W.Frag) (H : Hp) (p : Addr) (xs : List V) : Prop := SqL K H p xs ∨ SqT K H p xs
def rIxA (K : PySem.W.Frag) : R2 := fun x y H Q => ∃ p xs i v, x = .ref p ∧ y = .int i ∧ Sq K H p xs ∧ atI xs i = some v ∧ Q v H
def rLenA (K : PySem.W.Frag) : List V → Hp → VK → Prop := fun xs H Q => ∃ p ys, xs = [.ref p] ∧ Sq K H p ys ∧ Q (.int ys.length) H
def rTupOf (K : PySem.W.Frag) : List V → Hp → VK → Prop := fun xs H Q => ∃ p ys, xs = [.ref p] ∧ ((SqL K H p ys ∧ ∀ l, H l = none → Q (.ref l) (upd H l (.tup ys))) ∨ (SqT K H p ys ∧ Q (.ref p) H))
def rListOf (K : PySem.W.Frag) : List V → Hp → VK → Prop := fun xs H Q => ∃ p ys, xs = [.ref p] ∧ Sq K H p ys ∧ ∀ l, H l = none → Q (.ref l) (upd H l (.lst ys))
section
variable {X : Cx} {K : PySem.W.Frag}
theorem ix_A (h : X.K = K) : IxR X (rIxA K) := by
  subst h
  intro value slice pins s σ H x y v u Q I rx ry q hs
  obtain ⟨p, xs, i, z, e1, e2, hq, he, q⟩ := q
  rcases hq with hq | hq
  · exact ix_list value slice pins s σ H x y v u Q I rx ry ⟨p, xs, i, z, e1, e2, hq, he, q⟩ hs
  · exact ix_tup value slice pins s σ H x y v u Q I rx ry ⟨p, xs, i, z, e1, e2, hq, he, q⟩ hs
theorem call_lenA (h : X.K = K) : CallR X (.builtin "len") (rLenA K) := by subst h; exact call_len_seq
theorem call_tupleA (h : X.K = K) : CallR X (.type "tuple") (rTupOf K) := by subst h; exact call_tuple_of
theorem call_listA (h : X.K = K) : CallR X (.type "list") (rListOf K) := by subst h; exact call_list_of
theorem op_catAK (h : X.K = K) : OpR X (binaryOp .Add) (rCatA K) := by subst h; exact op_catA
theorem op_inK (h : X.K = K) : OpR X (compareOp .In) (rIn K false) := by subst h; exact op_in_seq
theorem op_notInK (h : X.K = K) : OpR X (compareOp .NotIn) (rIn K true) := by subst h; exact op_notIn_seq
theorem op_notInDK (h : X.K = K) (hu : X.A.units + 65 < cLine) : OpR X (compareOp .NotIn) (rNotInD K) := by subst h; exact op_notInD hu
theorem pe_fldK {e : Expr} {ta : TE} {f : Str} {pos : Pos} (h : X.K = K) (he : PE X e ta) (hb : attributeBase e f X.env (eval e X.env) = eval e X.env := by rfl) : PE X (.Attribute e f pos) (tFld K ta f) := by subst h; exact pe_fld he hb
theorem pg_tupK {es : List Expr} {k : Nat} {t : TGs} {n : Nat} {pos : Pos} (e : X.K = K) (hc : X.calm = true) (h : PGs X es t)
    (hn : (assignEach es X.env).length = n := by rfl) (hst : (assignEach es X.env).findIdx? (·.1) = none := by rfl) : PG X (.Tuple es k pos) (gTup K n t) := by subst e; exact pg_tup hc h hn hst
theorem pi_listK {tg l : Expr} {tl : TE} (e : X.K = K) (hl : PE X l tl) : PI X tg l (iList K tl) := by subst e; exact pi_list hl
theorem pi_tupK {tg l : Expr} {tl : TE} (e : X.K = K) (hl : PE X l tl) : PI X tg l (iTup K tl) := by subst e; exact pi_tup hl
end
theorem un0 {k : Nat} {A : Around} (hr : Room k A) : A.units < cLine := hr.units0
theorem un65 {k : Nat} {A : Around} (hr : Room k A) : A.units + 65 < cLine := by have := hr.un; omega
theorem un8 {k : Nat} {A : Around} (hr : Room k A) : A.units + 8 < cLine := by have := hr.un; omega
theorem pi_seq {X : Cx} {tg l : Expr} {tl : TE} (hl : PE X l tl) : PI X tg l (iSeq X.K tl) := by
  refine ⟨fun pins s σ H R I h => ?_⟩
  refine thn (hl.run pins s σ H _ I h) fun v s1 ⟨x, H1, I1, r1, q1⟩ => ?_
  obtain ⟨a, e, q1⟩ := q1
  subst e
  cases r1
  have fin : ∀ {o : Obj} {b : Addr} (hb : b ∈ [s1.heap.objs.size]), FpOk X pins H1 b := fun {o b} hb => by
    rw [List.mem_singleton.mp hb]
    exact I1.fpOk (Nat.le_refl _) (I1.hok.fresh (Nat.le_refl _))
  rcases q1 with ⟨⟨xs, hq⟩, q⟩ | ⟨⟨xs, hq⟩, q⟩
  · obtain ⟨its, rv, p, hz⟩ := I1.list hq
    refine wpAny_pyIter_list p.isList ?_
    exact ⟨s1.heap.objs.size, [s1.heap.objs.size], _, _, H1, rfl, I1.kept (t' := s1.toks) fun b o e => Heap.get?_push_of_some _ e, turn_list a _, ⟨_, Heap.get?_push_size _ rfl, rfl, rfl⟩, fun b hb => fin (o := seqObj "list" #[] 0) hb, q⟩
  · obtain ⟨its, rv, p, hz⟩ := I1.tuple hq
    refine wpAny_pyIter_tuple (show s1.heap.IsTuple a its.toArray from p) ?_
    exact ⟨s1.heap.objs.size, [s1.heap.objs.size], _, _, H1, rfl, I1.kept (t' := s1.toks) fun b o e => Heap.get?_push_of_some _ e, turn_tuple a _, ⟨_, Heap.get?_push_size _ rfl, rfl, rfl⟩, fun b hb => fin (o := seqObj "list" #[] 0) hb, q⟩
end L2
namespace Ws
open PySem L2
def top (i : Nat) : Stmt := PySem.Challenge.pw_whichstay_k54_whole_lists_right_in_house.main.body.getD i (.Pass ⟨0, 0, 0, 0⟩)
/-- what the top has written, of names and classes -/
structure Txt (P : Program) (K : PySem.W.Frag) (mg : Str → Option Value) (CB CL C1 C2 C3 C4 f1 f2 f3 f4 : Addr) (t9 t6 : Tok) : Prop where
  g_isinstance : mg "isinstance" = none
  g_int : mg "int" = none
  g_bool : mg "bool" = none
  g_list : mg "list" = none
  g_tuple : mg "tuple" = none
  g_range : mg "range" = none
  g_len : mg "len" = none
  g_enumerate : mg "enumerate" = none
  g_zip : mg "zip" = none
  g_dict : mg "dict" = none
  g_sorted : mg "sorted" = none
  g_all : mg "all" = none
  g_abs : mg "abs" = none
  g_min : mg "min" = none
  m_Book : mg "Book" = some (.ref CB)
  m_MOST_THINGS : mg "MOST_THINGS" = some (.int 9 t9)
  m_MOST_BOOKS : mg "MOST_BOOKS" = some (.int 6 t6)
  clB : Cls K CB
  clL : Cls K CL
  nB1 : NoAttr K CB "many"
  nB2 : NoAttr K CB "places"
  nB3 : NoAttr K CB "goers"
  nB4 : NoAttr K CB "by_lot"
  nL1 : NoAttr K CL "books"
  nL2 : NoAttr K CL "roads"
  nL3 : NoAttr K CL "kept"
  nL4 : NoAttr K CL "elder_states"
  nL5 : NoAttr K CL "later_states"
  x_InvalidBook : PySem.XSI.XTxt P K mg "InvalidBook" C1 f1
  x_InvalidRoads : PySem.XSI.XTxt P K mg "InvalidRoads" C2 f2
  x_NotSteady : PySem.XSI.XTxt P K mg "NotSteady" C3 f3
  x_Refused : PySem.XSI.XTxt P K mg "Refused" C4 f4
  xf_InvalidBook : XfC K C1
  xf_InvalidRoads : XfC K C2
  xf_NotSteady : XfC K C3
  xf_Refused : XfC K C4
  e11 : PySem.W.exmOne K (.ref C1) (.ref C1) = some true
  e21 : PySem.W.exmOne K (.ref C2) (.ref C1) = some false
  e22 : PySem.W.exmOne K (.ref C2) (.ref C2) = some true
  e31 : PySem.W.exmOne K (.ref C3) (.ref C1) = some false
  e32 : PySem.W.exmOne K (.ref C3) (.ref C2) = some false
  e33 : PySem.W.exmOne K (.ref C3) (.ref C3) = some true
  e44 : PySem.W.exmOne K (.ref C4) (.ref C4) = some true
  bA : PySem.W.findIn K (.ref CB) "__class__" = some (some (.builtin "object.__class__"))
  bN : PySem.W.specialIn K (.builtin "object.__class__") "__get__" = some (some (.builtin "getset_descriptor.__get__"))
  bT : PySem.W.takesIn K (.builtin "object.__class__") = some true
  bM : PySem.W.mroIn K CB (.type "object") = some true
  kB1 : PySem.W.kitOne K (.type "NoneType") (.ref CB) = some false
  kB2 : PySem.W.kitOne K (.type "bool") (.ref CB) = some false
  kB3 : PySem.W.kitOne K (.type "int") (.ref CB) = some false
  kB4 : PySem.W.kitOne K (.type "str") (.ref CB) = some false
  kB5 : PySem.W.kitOne K (.type "tuple") (.ref CB) = some false
  kB6 : PySem.W.kitOne K (.type "list") (.ref CB) = some false
  neBL : CB ≠ CL
end Ws
end
section
set_option linter.all false
set_option maxRecDepth 100000
/-! K12: lots as ascending lists; the list of a set by any order is one. Plain Lean. -/
namespace Ws
/-- ascending -/
def Asc : List Int → Prop
  | [] => True
  | x :: r => (∀ y ∈ r, x < y) ∧ Asc r
theorem Asc.nodup : ∀ {s : List Int}, Asc s → s.Nodup
  | [], _ => List.nodup_nil
  | x :: r, h => List.nodup_cons.mpr ⟨fun m => by have := h.1 x m; omega, Asc.nodup h.2⟩
theorem asc_ext : ∀ {s t : List Int}, Asc s → Asc t → (∀ x, x ∈ s ↔ x ∈ t) → s = t
  | [], [], _, _, _ => rfl
  | [], y :: t, _, _, h => by have := (h y).mpr List.mem_cons_self; cases this
  | x :: s, [], _, _, h => by have := (h x).mp List.mem_cons_self; cases this
  | x :: s, y :: t, hs, ht, h => by
    have hx := (h x).mp List.mem_cons_self
    have hy := (h y).mpr List.mem_cons_self
    have e : x = y := by
      rcases List.mem_cons.mp hx with e | hx
      · exact e
      · rcases List.mem_cons.mp hy with e | hy
        · exact e.symm
        · have a := ht.1 x hx
          have b := hs.1 y hy
          omega
    subst e
    have : s = t := asc_ext hs.2 ht.2 fun z => by
      constructor
      · intro hz
        rcases List.mem_cons.mp ((h z).mp (List.mem_cons_of_mem _ hz)) with e | q
        · subst e
          have := hs.1 z hz
          omega
        · exact q
      · intro hz
        rcases List.mem_cons.mp ((h z).mpr (List.mem_cons_of_mem _ hz)) with e | q
        · subst e
          have := ht.1 z hz
          omega
        · exact q
    rw [this]
theorem asc_filter (p : Int → Bool) : ∀ {s : List Int}, Asc s → Asc (s.filter p)
  | [], _ => trivial
  | x :: r, h => by
    rw [List.filter_cons]
    split
    · exact ⟨fun y hy => h.1 y ((List.mem_filter.mp hy).1), asc_filter p h.2⟩
    · exact asc_filter p h.2
theorem asc_of {s : List Int} (h1 : s.Pairwise (· ≤ ·)) (h2 : s.Nodup) : Asc s := by
  induction s with
  | nil => trivial
  | cons x r ih =>
    have a := List.pairwise_cons.mp h1
    have b := List.nodup_cons.mp h2
    refine ⟨fun y hy => ?_, ih a.2 b.2⟩
    have c := a.1 y hy
    have d : x ≠ y := fun e => b.1 (e ▸ hy)
    omega
/-- x put in -/
def insA (x : Int) : List Int → List Int
  | [] => [x]
  | y :: r => if x < y then x :: y :: r else y :: insA x r
theorem mem_insA {x z : Int} : ∀ {s : List Int}, z ∈ insA x s ↔ z = x ∨ z ∈ s
  | [] => by simp [insA]
  | y :: r => by
    unfold insA
    split
    · simp
    · rw [List.mem_cons, mem_insA, List.mem_cons]
      constructor
      · rintro (h | h | h)
        · exact .inr (.inl h)
        · exact .inl h
        · exact .inr (.inr h)
      · rintro (h | h | h)
        · exact .inr (.inl h)
        · exact .inl h
        · exact .inr (.inr h)
theorem asc_insA {x : Int} : ∀ {s : List Int}, Asc s → x ∉ s → Asc (insA x s)
  | [], _, _ => ⟨fun _ h => (by cases h), trivial⟩
  | y :: r, h, hx => by
    unfold insA
    have ne : x ≠ y := fun e => hx (e ▸ List.mem_cons_self)
    split
    · rename_i lt
      refine ⟨fun z hz => ?_, h⟩
      rcases List.mem_cons.mp hz with e | hz
      · omega
      · have := h.1 z hz
        omega
    · refine ⟨fun z hz => ?_, asc_insA h.2 fun m => hx (List.mem_cons_of_mem _ m)⟩
      rcases mem_insA.mp hz with e | hz
      · omega
      · exact h.1 z hz
theorem len_insA (x : Int) : ∀ s : List Int, (insA x s).length = s.length + 1
  | [] => rfl
  | y :: r => by
    unfold insA
    split
    · simp
    · simp [len_insA x r]
theorem insA_of {x : Int} {s t : List Int} (hs : Asc s) (hx : x ∉ s) (hp : t.Perm (s ++ [x])) (hl : t.Pairwise (· ≤ ·)) : t = insA x s := by
  have nd : (s ++ [x]).Nodup := by
    rw [List.nodup_append]
    exact ⟨hs.nodup, by simp, fun a ha b hb e => hx (by rw [List.mem_singleton] at hb; rw [← hb, ← e]; exact ha)⟩
  refine asc_ext (asc_of hl (hp.nodup_iff.mpr nd)) (asc_insA hs hx) fun z => ?_
  rw [hp.mem_iff, mem_insA]
  simp
  constructor
  · rintro (h | h)
    · exact .inr h
    · exact .inl h
  · rintro (h | h)
    · exact .inr h
    · exact .inl h
/-- x taken away -/
def less (s : List Int) (x : Int) : List Int := s.filter fun y => !decide (y = x)
theorem mem_less {s : List Int} {x z : Int} : z ∈ less s x ↔ z ∈ s ∧ z ≠ x := by
  unfold less
  simp [List.mem_filter]
theorem asc_less {s : List Int} (x : Int) (h : Asc s) : Asc (less s x) := asc_filter _ h
theorem less_out {s : List Int} {x : Int} (h : x ∉ s) : less s x = s := by
  unfold less
  rw [List.filter_eq_self]
  intro y hy
  have : y ≠ x := fun e => h (e ▸ hy)
  simp [this]
theorem len_less : ∀ {s : List Int} {x : Int}, s.Nodup → x ∈ s → (less s x).length + 1 = s.length
  | y :: r, x, h, hx => by
    have nd := List.nodup_cons.mp h
    by_cases e : y = x
    · subst e
      have : less (y :: r) y = r := by
        have q : less (y :: r) y = less r y := by simp [less]
        rw [q, less_out nd.1]
      rw [this]
      rfl
    · have hx' : x ∈ r := by
        rcases List.mem_cons.mp hx with e' | q
        · exact absurd e'.symm e
        · exact q
      have : less (y :: r) x = y :: less r x := by simp [less, e]
      rw [this]
      have := len_less nd.2 hx'
      simp
      exact this
/-- a lot of things below m -/
def LotOk (m : Int) (s : List Int) : Prop := Asc s ∧ ∀ x ∈ s, 0 ≤ x ∧ x < m
theorem LotOk.ins {m : Int} {s : List Int} {x : Int} (h : LotOk m s) (hx : x ∉ s) (h0 : 0 ≤ x) (h1 : x < m) : LotOk m (insA x s) := ⟨asc_insA h.1 hx, fun z hz => by
  rcases mem_insA.mp hz with e | hz
  · rw [e]; exact ⟨h0, h1⟩
  · exact h.2 z hz⟩
theorem LotOk.less {m : Int} {s : List Int} (x : Int) (h : LotOk m s) : LotOk m (less s x) := ⟨asc_less x h.1, fun z hz => h.2 z (mem_less.mp hz).1⟩
theorem LotOk.fil {m : Int} {s : List Int} (p : Int → Bool) (h : LotOk m s) : LotOk m (s.filter p) := ⟨asc_filter p h.1, fun z hz => h.2 z ((List.mem_filter.mp hz).1)⟩
theorem LotOk.nil (m : Int) : LotOk m [] := ⟨trivial, fun _ h => by cases h⟩

/-! ### a table: who goes -/
/-- two go of each wide lot -/
def Two (g : List Int → Int) (w : List Int) : Prop := ∃ a b, a ≠ b ∧ a ∈ w ∧ b ∈ w ∧ (∀ x ∈ w, g (less w x) = a ∨ g (less w x) = b)
structure Good (m : Int) (k : Nat) (g : List Int → Int) : Prop where
  goes : ∀ s, LotOk m s → s.length = k + 1 → g s ∈ s
  two : ∀ w, LotOk m w → w.length = k + 2 → Two g w
def step (g : List Int → Int) (k : Nat) (s : List Int) (x : Int) : List Int :=
  if x ∈ s then s else if k < (insA x s).length then less (insA x s) (g (insA x s)) else insA x s
section
variable {m : Int} {k : Nat} {g : List Int → Int}
structure Stay (m : Int) (k : Nat) (s : List Int) : Prop where
  ok : LotOk m s
  le : s.length ≤ k
theorem step_mem {s : List Int} {x z : Int} (h : z ∈ step g k s x) : z = x ∨ z ∈ s := by
  unfold step at h
  split at h
  · exact .inr h
  · split at h
    · exact mem_insA.mp (mem_less.mp h).1
    · exact mem_insA.mp h
theorem step_stay (G : Good m k g) {s : List Int} {x : Int} (h : Stay m k s) (h0 : 0 ≤ x) (h1 : x < m) : Stay m k (step g k s x) := by
  unfold step
  split
  · exact h
  · rename_i hx
    have o := h.ok.ins hx h0 h1
    split
    · rename_i hl
      have l := len_insA x s
      have := h.le
      have gm := G.goes _ o (by omega)
      refine ⟨o.less _, ?_⟩
      have := len_less o.1.nodup gm
      omega
    · exact ⟨o, by omega⟩
/-- what isn't kept changes nothing -/
theorem step_lost (G : Good m k g) {s : List Int} {x : Int} (h : Stay m k s) (h0 : 0 ≤ x) (h1 : x < m) (hx : x ∉ step g k s x) : step g k s x = s := by
  unfold step at hx ⊢
  split
  · rfl
  · rename_i hn
    rw [if_neg hn] at hx
    split
    · rename_i hl
      rw [if_pos hl] at hx
      have e : g (insA x s) = x := by
        false_or_by_contra
        rename_i ne
        exact hx (mem_less.mpr ⟨mem_insA.mpr (.inl rfl), Ne.symm ne⟩)
      rw [e]
      refine asc_ext (asc_less _ (asc_insA h.ok.1 hn)) h.ok.1 fun z => ?_
      rw [mem_less, mem_insA]
      constructor
      · rintro ⟨h | h, ne⟩
        · exact absurd h ne
        · exact h
      · intro hz
        exact ⟨.inr hz, fun e => hn (e ▸ hz)⟩
    · rename_i hl
      rw [if_neg hl] at hx
      exact absurd (mem_insA.mpr (.inl rfl)) hx
theorem step_idem (G : Good m k g) {s : List Int} {x : Int} (h : Stay m k s) (h0 : 0 ≤ x) (h1 : x < m) : step g k (step g k s x) x = step g k s x := by
  by_cases hx : x ∈ step g k s x
  · show (if x ∈ step g k s x then _ else _) = _
    rw [if_pos hx]
  · rw [step_lost G h h0 h1 hx]
    rw [step_lost G h h0 h1 hx]
/-- x is there, y comes, x comes again -/
theorem step_back (G : Good m k g) {s : List Int} {x y : Int} (h : Stay m k s) (hx : x ∈ s) (hy : y ∉ s) (h0 : 0 ≤ y) (h1 : y < m) : step g k (step g k s y) x = step g k s y := by
  have hb := h.ok.2 x hx
  by_cases hm : x ∈ step g k s y
  · show (if x ∈ step g k s y then _ else _) = _
    rw [if_pos hm]
  · have e : step g k s y = if k < (insA y s).length then less (insA y s) (g (insA y s)) else insA y s := if_neg hy
    rw [e] at hm
    by_cases hl : k < (insA y s).length
    · rw [if_pos hl] at e hm
      have o := h.ok.ins hy h0 h1
      have eg : g (insA y s) = x := by
        false_or_by_contra
        rename_i ne
        exact hm (mem_less.mpr ⟨mem_insA.mpr (.inr hx), Ne.symm ne⟩)
      rw [eg] at e hm
      have back : insA x (less (insA y s) x) = insA y s := by
        refine asc_ext (asc_insA (asc_less _ o.1) fun q => (mem_less.mp q).2 rfl) o.1 fun z => ?_
        rw [mem_insA, mem_less]
        constructor
        · rintro (q | q)
          · rw [q]; exact mem_insA.mpr (.inr hx)
          · exact q.1
        · intro q
          by_cases ez : z = x
          · exact .inl ez
          · exact .inr ⟨q, ez⟩
      rw [e]
      show (if x ∈ less (insA y s) x then _ else if k < (insA x (less (insA y s) x)).length then less (insA x (less (insA y s) x)) (g (insA x (less (insA y s) x))) else _) = _
      rw [if_neg hm, back, if_pos hl, eg]
    · rw [if_neg hl] at hm
      exact absurd (mem_insA.mpr (.inr hx)) hm
theorem two_at {w : List Int} (G : Good m k g) (ow : LotOk m w) (lw : w.length = k + 2) : ∃ a b, a ≠ b ∧ a ∈ w ∧ b ∈ w ∧ (∀ x ∈ w, g (less w x) = a ∨ g (less w x) = b) ∧ g (less w a) = b ∧ g (less w b) = a := by
  obtain ⟨a, b, ne, ha, hb, h⟩ := G.two w ow lw
  have no : ∀ x ∈ w, g (less w x) ≠ x := fun x hx e => by
    have l := len_less ow.1.nodup hx
    have q := G.goes (less w x) (ow.less x) (by omega)
    rw [e] at q
    exact (mem_less.mp q).2 rfl
  refine ⟨a, b, ne, ha, hb, h, ?_, ?_⟩
  · rcases h a ha with q | q
    · exact absurd q (no a ha)
    · exact q
  · rcases h b hb with q | q
    · exact q
    · exact absurd q (no b hb)
theorem step_comm (G : Good m k g) {s : List Int} {x y : Int} (h : Stay m k s) (hx0 : 0 ≤ x) (hx1 : x < m) (hy0 : 0 ≤ y) (hy1 : y < m) : step g k (step g k s x) y = step g k (step g k s y) x := by
  by_cases exy : x = y
  · rw [exy]
  by_cases hx : x ∈ s
  · have e : step g k s x = s := if_pos hx
    rw [e]
    by_cases hy : y ∈ s
    · have e2 : step g k s y = s := if_pos hy
      rw [e2, e]
    · exact (step_back G h hx hy hy0 hy1).symm
  by_cases hy : y ∈ s
  · have e : step g k s y = s := if_pos hy
    rw [e]
    exact step_back G h hy hx hx0 hx1
  have lx := len_insA x s
  have ly := len_insA y s
  have ox := h.ok.ins hx hx0 hx1
  have oy := h.ok.ins hy hy0 hy1
  have hyx : y ∉ insA x s := fun q => by
    rcases mem_insA.mp q with e | q
    · exact exy e.symm
    · exact hy q
  have hxy : x ∉ insA y s := fun q => by
    rcases mem_insA.mp q with e | q
    · exact exy e
    · exact hx q
  have ow := ox.ins hyx hy0 hy1
  have ow' := oy.ins hxy hx0 hx1
  have ew : insA x (insA y s) = insA y (insA x s) := asc_ext ow'.1 ow.1 fun z => by
    rw [mem_insA, mem_insA, mem_insA, mem_insA]
    constructor
    · rintro (q | q | q)
      · exact .inr (.inl q)
      · exact .inl q
      · exact .inr (.inr q)
    · rintro (q | q | q)
      · exact .inr (.inl q)
      · exact .inl q
      · exact .inr (.inr q)
  have hle := h.le
  by_cases hfull : s.length < k
  · -- both are put in first
    have e1 : step g k s x = insA x s := by
      unfold step
      rw [if_neg hx, if_neg (by omega)]
    have e2 : step g k s y = insA y s := by
      unfold step
      rw [if_neg hy, if_neg (by omega)]
    rw [e1, e2]
    unfold step
    rw [if_neg hyx, if_neg hxy, ew]
  · -- a full row
    have lw := len_insA y (insA x s)
    generalize hw : insA y (insA x s) = w at *
    have lw2 : w.length = k + 2 := by omega
    obtain ⟨a, b, ne, ha, hb, hab, ga, gb⟩ := two_at G ow lw2
    have wy : less w y = insA x s := asc_ext (asc_less _ ow.1) ox.1 fun z => by
      rw [mem_less, ← hw, mem_insA]
      constructor
      · rintro ⟨q | q, n⟩
        · exact absurd q n
        · exact q
      · intro q
        exact ⟨.inr q, fun e => hyx (e ▸ q)⟩
    have wx : less w x = insA y s := asc_ext (asc_less _ ow.1) oy.1 fun z => by
      rw [mem_less, ← ew, mem_insA]
      constructor
      · rintro ⟨q | q, n⟩
        · exact absurd q n
        · exact q
      · intro q
        exact ⟨.inr q, fun e => hxy (e ▸ q)⟩
    have hyw : y ∈ w := by rw [← hw]; exact mem_insA.mpr (.inl rfl)
    have hxw : x ∈ w := by rw [← ew]; exact mem_insA.mpr (.inl rfl)
    -- one road: u comes to w - v .. gives w - a - b
    have road : ∀ u v : Int, u ∈ w → v ∈ w → u ≠ v → u ∉ s → v ∉ s → less w v = insA u s → step g k (step g k s u) v = less (less w a) b := fun u v hu hv nuv us vs e => by
      have lu := len_insA u s
      have e1 : step g k s u = less (less w v) (g (less w v)) := by
        unfold step
        rw [if_neg us, if_pos (by omega), e]
      have go : ∀ p q : Int, g (less w v) = p → g (less w p) = q → p ∈ w → p ≠ v → step g k (less (less w v) p) v = less (less w p) q := fun p q e1 e2 hp np => by
        have back : insA v (less (less w v) p) = less w p := by
          refine asc_ext (asc_insA (asc_less _ (asc_less _ ow.1)) fun z => (mem_less.mp (mem_less.mp z).1).2 rfl) (asc_less _ ow.1) fun z => ?_
          rw [mem_insA, mem_less, mem_less, mem_less]
          constructor
          · rintro (q | q)
            · rw [q]; exact ⟨hv, Ne.symm np⟩
            · exact ⟨q.1.1, q.2⟩
          · intro q
            by_cases ez : z = v
            · exact .inl ez
            · exact .inr ⟨⟨q.1, ez⟩, q.2⟩
        have lp := len_less ow.1.nodup hp
        unfold step
        rw [if_neg fun z => (mem_less.mp (mem_less.mp z).1).2 rfl, back, if_pos (by omega), e2]
      have nv : g (less w v) ≠ v := fun z => by
        have l := len_less ow.1.nodup hv
        have q := G.goes (less w v) (ow.less v) (by omega)
        rw [z] at q
        exact (mem_less.mp q).2 rfl
      rw [e1]
      rcases hab v hv with q | q
      · rw [q] at nv ⊢
        exact go a b q ga ha nv
      · rw [q] at nv ⊢
        rw [go b a q gb hb nv]
        refine asc_ext (asc_less _ (asc_less _ ow.1)) (asc_less _ (asc_less _ ow.1)) fun z => ?_
        rw [mem_less, mem_less, mem_less, mem_less]
        constructor
        · rintro ⟨⟨q1, q2⟩, q3⟩; exact ⟨⟨q1, q3⟩, q2⟩
        · rintro ⟨⟨q1, q2⟩, q3⟩; exact ⟨⟨q1, q3⟩, q2⟩
    rw [road x y hxw hyw exy hx hy wy, road y x hyw hxw (Ne.symm exy) hy hx wx]
/-- the list of a row of things -/
def lst (g : List Int → Int) (k : Nat) (row : List Int) : List Int := row.foldl (step g k) []
theorem fold_stay (G : Good m k g) : ∀ (row s : List Int), Stay m k s → (∀ x ∈ row, 0 ≤ x ∧ x < m) → Stay m k (row.foldl (step g k) s)
  | [], _, h, _ => h
  | x :: r, s, h, hr => fold_stay G r _ (step_stay G h (hr x List.mem_cons_self).1 (hr x List.mem_cons_self).2) fun y hy => hr y (List.mem_cons_of_mem _ hy)
theorem fold_push (G : Good m k g) : ∀ (row s : List Int) (x : Int), Stay m k s → (∀ y ∈ row, 0 ≤ y ∧ y < m) → 0 ≤ x → x < m → row.foldl (step g k) (step g k s x) = step g k (row.foldl (step g k) s) x
  | [], _, _, _, _, _, _ => rfl
  | y :: r, s, x, h, hr, h0, h1 => by
    have hy := hr y List.mem_cons_self
    show r.foldl (step g k) (step g k (step g k s x) y) = step g k (r.foldl (step g k) (step g k s y)) x
    rw [step_comm G h h0 h1 hy.1 hy.2]
    exact fold_push G r _ x (step_stay G h hy.1 hy.2) (fun z hz => hr z (List.mem_cons_of_mem _ hz)) h0 h1
theorem Stay.nil (m : Int) (k : Nat) : Stay m k [] := ⟨.nil m, Nat.zero_le _⟩
theorem lst_stay (G : Good m k g) {s : List Int} (h : ∀ x ∈ s, 0 ≤ x ∧ x < m) : Stay m k (lst g k s) := fold_stay G s [] (.nil m k) h
/-- the last one put in anywhere -/
theorem lst_ins (G : Good m k g) : ∀ {s : List Int} {x : Int}, (∀ y ∈ s, 0 ≤ y ∧ y < m) → 0 ≤ x → x < m → ∀ t, Stay m k t → (insA x s).foldl (step g k) t = step g k (s.foldl (step g k) t) x
  | [], x, _, _, _, _, _ => rfl
  | y :: r, x, h, h0, h1, t, ht => by
    unfold insA
    have hy := h y List.mem_cons_self
    split
    · exact fold_push G (y :: r) t x ht h h0 h1
    · show (insA x r).foldl (step g k) (step g k t y) = _
      rw [lst_ins G (fun z hz => h z (List.mem_cons_of_mem _ hz)) h0 h1 _ (step_stay G ht hy.1 hy.2)]
      rfl
theorem lst_more (G : Good m k g) {s : List Int} {x : Int} (h : LotOk m s) (h0 : 0 ≤ x) (h1 : x < m) : lst g k (insA x s) = step g k (lst g k s) x := lst_ins G h.2 h0 h1 [] (.nil m k)
theorem lst_sub : ∀ (s t : List Int) (z : Int), z ∈ s.foldl (step g k) t → z ∈ t ∨ z ∈ s
  | [], t, z, h => .inl h
  | x :: r, t, z, h => by
    rcases lst_sub r _ z h with q | q
    · rcases step_mem q with e | q
      · exact .inr (by rw [e]; exact List.mem_cons_self)
      · exact .inl q
    · exact .inr (List.mem_cons_of_mem _ q)
theorem lst_in {s : List Int} {z : Int} (h : z ∈ lst g k s) : z ∈ s := by
  rcases lst_sub s [] z h with q | q
  · cases q
  · exact q
/-- s = (s - x) + x -/
theorem ins_less {s : List Int} {x : Int} (h : Asc s) (hx : x ∈ s) : insA x (less s x) = s := asc_ext (asc_insA (asc_less _ h) fun q => (mem_less.mp q).2 rfl) h fun z => by
  rw [mem_insA, mem_less]
  constructor
  · rintro (q | q)
    · rw [q]; exact hx
    · exact q.1
  · intro q
    by_cases e : z = x
    · exact .inl e
    · exact .inr ⟨q, e⟩
/-- who isn't on the list can be left out -/
theorem lst_drop (G : Good m k g) {s : List Int} {x : Int} (h : LotOk m s) (hx : x ∈ s) (hn : x ∉ lst g k s) : lst g k (less s x) = lst g k s := by
  have hb := h.2 x hx
  have e := lst_more G (h.less x) hb.1 hb.2
  rw [ins_less h.1 hx] at e
  rw [e] at hn ⊢
  exact (step_lost G (lst_stay G (h.less x).2) hb.1 hb.2 hn).symm
theorem lst_her1 (G : Good m k g) {s : List Int} {x y : Int} (h : LotOk m s) (hx : x ∈ s) (hy : y ∈ lst g k s) (ne : y ≠ x) : y ∈ lst g k (less s x) := by
  have hb := h.2 x hx
  have e := lst_more G (h.less x) hb.1 hb.2
  rw [ins_less h.1 hx] at e
  rw [e] at hy
  rcases step_mem hy with q | q
  · exact absurd q ne
  · exact q
/-- sub lots by leaving out -/
theorem sub_ind {m : Int} (P : List Int → Prop) {t : List Int} (ht : Asc t) (hs : ∀ s x, LotOk m s → x ∈ s → x ∉ t → (∀ z ∈ t, z ∈ s) → P s → P (less s x)) : ∀ (n : Nat) (s : List Int), s.length ≤ n → LotOk m s → (∀ z ∈ t, z ∈ s) → P s → P t := by
  intro n
  induction n with
  | zero =>
    intro s hl ho hsub p
    have e : s = [] := List.length_eq_zero_iff.mp (by omega)
    subst e
    have : t = [] := by
      cases t with
      | nil => rfl
      | cons a r => exact absurd (hsub a List.mem_cons_self) (by simp)
    rw [this]; exact p
  | succ n ih =>
    intro s hl ho hsub p
    by_cases q : ∃ x, x ∈ s ∧ x ∉ t
    · obtain ⟨x, hx, hn⟩ := q
      have l := len_less ho.1.nodup hx
      exact ih (less s x) (by omega) (ho.less x) (fun z hz => mem_less.mpr ⟨hsub z hz, fun e => hn (e ▸ hz)⟩) (hs s x ho hx hn hsub p)
    · have e : s = t := asc_ext ho.1 ht fun z => ⟨fun hz => by
        false_or_by_contra
        exact q ⟨z, hz, by assumption⟩, hsub z⟩
      rw [← e]; exact p
/-- between its list and itself the list is the same -/
theorem lst_same (G : Good m k g) {s t : List Int} (h : LotOk m s) (ht : Asc t) (h1 : ∀ z ∈ t, z ∈ s) (h2 : ∀ z ∈ lst g k s, z ∈ t) : lst g k t = lst g k s := by
  refine sub_ind (m := m) (fun u => lst g k u = lst g k s) ht (fun u x hu hx hn _ p => ?_) s.length s (Nat.le_refl _) h h1 rfl
  have hn' : x ∉ lst g k u := fun q => hn (h2 x (by rw [← p]; exact q))
  rw [lst_drop G hu hx hn', p]
/-- who is on the list of a lot is on that of a smaller lot that holds him -/
theorem lst_her (G : Good m k g) {s t : List Int} {y : Int} (h : LotOk m s) (ht : Asc t) (h1 : ∀ z ∈ t, z ∈ s) (hy : y ∈ t) (hl : y ∈ lst g k s) : y ∈ lst g k t := by
  refine sub_ind (m := m) (fun u => y ∈ lst g k u) ht (fun u x hu hx hn _ p => ?_) s.length s (Nat.le_refl _) h h1 hl
  exact lst_her1 G hu hx p fun e => hn (e ▸ hy)
end
end Ws
end
section
set_option linter.all false
set_option maxRecDepth 100000
/-! K13: rows, tastes, calm changes. Plain Lean. -/
namespace Ws
/-! ### ranges and rows -/
def rng (lo hi : Int) : List Int := (List.range (hi - lo).toNat).map fun (i : Nat) => lo + (i : Int)
theorem mem_rng {lo hi x : Int} : x ∈ rng lo hi ↔ lo ≤ x ∧ x < hi := by
  unfold rng
  rw [List.mem_map]
  constructor
  · rintro ⟨i, hi, rfl⟩
    rw [List.mem_range] at hi
    omega
  · intro h
    exact ⟨(x - lo).toNat, by rw [List.mem_range]; omega, by omega⟩
theorem asc_of_lt : ∀ {s : List Int}, s.Pairwise (· < ·) → Asc s
  | [], _ => trivial
  | x :: r, h => by
    have a := List.pairwise_cons.mp h
    exact ⟨a.1, asc_of_lt a.2⟩
theorem Asc.lt : ∀ {s : List Int}, Asc s → s.Pairwise (· < ·)
  | [], _ => List.Pairwise.nil
  | x :: r, h => List.pairwise_cons.mpr ⟨h.1, h.2.lt⟩
theorem asc_rng (lo hi : Int) : Asc (rng lo hi) := by
  refine asc_of_lt ?_
  unfold rng
  rw [List.pairwise_map]
  exact List.Pairwise.imp (fun h => by omega) List.pairwise_lt_range
theorem lot_rng (m : Int) : LotOk m (rng 0 m) := ⟨asc_rng 0 m, fun x hx => mem_rng.mp hx⟩
theorem len_rng (lo hi : Int) : (rng lo hi).length = (hi - lo).toNat := by unfold rng; rw [List.length_map, List.length_range]
theorem asc_app : ∀ {r : List Int} {o : Int}, Asc (r ++ [o]) ↔ Asc r ∧ ∀ y ∈ r, y < o
  | [], o => by
    constructor
    · intro _; exact ⟨trivial, fun y h => by cases h⟩
    · intro _; exact ⟨fun y h => (by cases h), trivial⟩
  | x :: r, o => by
    show ((∀ y ∈ r ++ [o], x < y) ∧ Asc (r ++ [o])) ↔ ((∀ y ∈ r, x < y) ∧ Asc r) ∧ _
    rw [asc_app]
    constructor
    · rintro ⟨h1, h2, h3⟩
      exact ⟨⟨fun y hy => h1 y (List.mem_append_left _ hy), h2⟩, fun y hy => by
        rcases List.mem_cons.mp hy with e | hy
        · rw [e]; exact h1 o (List.mem_append_right _ (List.mem_singleton.mpr rfl))
        · exact h3 y hy⟩
    · rintro ⟨⟨h1, h2⟩, h3⟩
      refine ⟨fun y hy => ?_, h2, fun y hy => h3 y (List.mem_cons_of_mem _ hy)⟩
      rcases List.mem_append.mp hy with hy | hy
      · exact h1 y hy
      · rw [List.mem_singleton.mp hy]; exact h3 x List.mem_cons_self
def nxt (r : List Int) : Int := match r.getLast? with | some x => x + 1 | none => 0
theorem nxt_app (r : List Int) (o : Int) : nxt (r ++ [o]) = o + 1 := by unfold nxt; simp
theorem nxt_nil : nxt [] = 0 := rfl
def ext (m : Int) (r : List Int) : List (List Int) := (rng (nxt r) m).map fun o => r ++ [o]
def rows (m : Int) : Nat → List (List Int)
  | 0 => [[]]
  | k + 1 => (rows m k).flatMap (ext m)
theorem list_last {α : Type} : ∀ (l : List α), l = [] ∨ ∃ r x, l = r ++ [x]
  | [] => .inl rfl
  | x :: l => by
    rcases list_last l with e | ⟨r, y, e⟩
    · exact .inr ⟨[], x, by rw [e]; rfl⟩
    · exact .inr ⟨x :: r, y, by rw [e]; rfl⟩
theorem asc_nxt {r : List Int} {o : Int} (h : Asc r) (h0 : 0 ≤ o) : (∀ y ∈ r, y < o) ↔ nxt r ≤ o := by
  rcases list_last r with e | ⟨q, x, e⟩
  · subst e
    rw [nxt_nil]
    exact ⟨fun _ => h0, fun _ y hy => by cases hy⟩
  · subst e
    rw [nxt_app]
    have ha := (asc_app.mp h).2
    constructor
    · intro hh
      have := hh x (List.mem_append_right _ (List.mem_singleton.mpr rfl))
      omega
    · intro hh y hy
      rcases List.mem_append.mp hy with q | q
      · have := ha y q
        omega
      · rw [List.mem_singleton.mp q]; omega
theorem nxt_nn {m : Int} {r : List Int} (h : LotOk m r) : 0 ≤ nxt r := by
  rcases list_last r with e | ⟨q, x, e⟩
  · rw [e, nxt_nil]; omega
  · subst e
    rw [nxt_app]
    have := (h.2 x (List.mem_append_right _ (List.mem_singleton.mpr rfl))).1
    omega
theorem mem_rows {m : Int} : ∀ {k : Nat} {s : List Int}, s ∈ rows m k ↔ LotOk m s ∧ s.length = k
  | 0, s => by
    show s ∈ [[]] ↔ _
    rw [List.mem_singleton]
    constructor
    · rintro rfl; exact ⟨.nil m, rfl⟩
    · intro h; exact List.length_eq_zero_iff.mp h.2
  | k + 1, s => by
    show s ∈ (rows m k).flatMap (ext m) ↔ _
    rw [List.mem_flatMap]
    constructor
    · rintro ⟨r, hr, hs⟩
      obtain ⟨h1, h2⟩ := mem_rows.mp hr
      unfold ext at hs
      rw [List.mem_map] at hs
      obtain ⟨o, ho, rfl⟩ := hs
      have q := mem_rng.mp ho
      have nn := nxt_nn h1
      refine ⟨⟨asc_app.mpr ⟨h1.1, (asc_nxt h1.1 (by omega)).mpr q.1⟩, fun z hz => ?_⟩, by simp [h2]⟩
      rcases List.mem_append.mp hz with e | e
      · exact h1.2 z e
      · rw [List.mem_singleton.mp e]; omega
    · rintro ⟨h1, h2⟩
      rcases list_last s with e | ⟨r, o, e⟩
      · rw [e] at h2; cases h2
      · subst e
        obtain ⟨a1, a2⟩ := asc_app.mp h1.1
        have ho := h1.2 o (List.mem_append_right _ (List.mem_singleton.mpr rfl))
        refine ⟨r, mem_rows.mpr ⟨⟨a1, fun z hz => h1.2 z (List.mem_append_left _ hz)⟩, by simpa using h2⟩, ?_⟩
        unfold ext
        rw [List.mem_map]
        exact ⟨o, mem_rng.mpr ⟨(asc_nxt a1 ho.1).mp a2, ho.2⟩, rfl⟩
theorem rows_small {m : Int} {k : Nat} (h0 : 0 ≤ m) (hm : m ≤ 6) (hk : k ≤ 5) : (rows m k).length ≤ 1000 ∧ (rows m k).Nodup := by
  have hm7 : m = 0 ∨ m = 1 ∨ m = 2 ∨ m = 3 ∨ m = 4 ∨ m = 5 ∨ m = 6 := by omega
  have hk6 : k = 0 ∨ k = 1 ∨ k = 2 ∨ k = 3 ∨ k = 4 ∨ k = 5 := by omega
  rcases hm7 with rfl | rfl | rfl | rfl | rfl | rfl | rfl <;> rcases hk6 with rfl | rfl | rfl | rfl | rfl | rfl <;> decide +kernel
theorem ext_small {m : Int} (hm : m ≤ 6) {r : List Int} (h : LotOk m r) : (ext m r).length ≤ 6 := by
  unfold ext
  rw [List.length_map, len_rng]
  have := nxt_nn h
  omega
/-! ### tastes -/
def best (r left : List Int) : List Int := (r.filter fun x => decide (x ∈ left)).take 1
def res (r left : List Int) : List Int := left.filter fun x => !decide (x ∈ best r left)
def resid (ts : List (List Int)) (s : List Int) : List Int := ts.foldl (fun l r => res r l) s
theorem best_is (r left : List Int) : best r left = [] ∧ (∀ x ∈ r, x ∉ left) ∨ ∃ b, best r left = [b] ∧ b ∈ left ∧ r.find? (fun x => decide (x ∈ left)) = some b := by
  unfold best
  induction r with
  | nil => exact .inl ⟨rfl, fun x h => by cases h⟩
  | cons x r ih =>
    by_cases h : x ∈ left
    · exact .inr ⟨x, by simp [h], h, by simp [h]⟩
    · rcases ih with ⟨e, q⟩ | ⟨b, e, q1, q2⟩
      · refine .inl ⟨by simp [h]; simpa using e, fun y hy => ?_⟩
        rcases List.mem_cons.mp hy with e' | hy
        · rw [e']; exact h
        · exact q y hy
      · refine .inr ⟨b, ?_, q1, ?_⟩
        · rw [List.filter_cons, if_neg (by simpa using h)]; exact e
        · rw [List.find?_cons_of_neg (by simpa using h)]; exact q2
theorem res_one {r left : List Int} {b : Int} (e : best r left = [b]) : res r left = less left b := by
  unfold res less
  rw [e]
  congr 1
  funext y
  simp
theorem res_none {r left : List Int} (e : best r left = []) : res r left = left := by
  unfold res
  rw [e]
  simp
theorem res_len {m : Int} {r left : List Int} (hr : ∀ x, 0 ≤ x → x < m → x ∈ r) (h : LotOk m left) (hn : left ≠ []) : (res r left).length + 1 = left.length ∧ LotOk m (res r left) := by
  rcases best_is r left with ⟨_, q⟩ | ⟨b, e, q1, _⟩
  · cases left with
    | nil => exact absurd rfl hn
    | cons x l =>
      have hx := h.2 x List.mem_cons_self
      exact absurd List.mem_cons_self (q x (hr x hx.1 hx.2))
  · rw [res_one e]
    exact ⟨len_less h.1.nodup q1, h.less b⟩
theorem res_mono {r s t : List Int} (hst : ∀ x ∈ s, x ∈ t) : ∀ x ∈ res r s, x ∈ res r t := by
  intro x hx
  rcases best_is r t with ⟨e, q⟩ | ⟨b, e, q1, q2⟩
  · rw [res_none e]
    unfold res at hx
    exact hst x (List.mem_filter.mp hx).1
  · rw [res_one e, mem_less]
    have hxs : x ∈ s := by
      unfold res at hx
      exact (List.mem_filter.mp hx).1
    refine ⟨hst x hxs, fun exb => ?_⟩
    subst exb
    -- x is the first of r in t, so in s
    have f : r.find? (fun y => decide (y ∈ s)) = some x := by
      have : ∀ r : List Int, r.find? (fun y => decide (y ∈ t)) = some x → r.find? (fun y => decide (y ∈ s)) = some x := by
        intro r
        induction r with
        | nil => intro h; cases h
        | cons y r ih =>
          intro h
          by_cases hy : y ∈ t
          · rw [List.find?_cons_of_pos (by simpa using hy)] at h
            cases h
            rw [List.find?_cons_of_pos (by simpa using hxs)]
          · rw [List.find?_cons_of_neg (by simpa using hy)] at h
            rw [List.find?_cons_of_neg (by simpa using fun z => hy (hst y z))]
            exact ih h
      exact this r q2
    rcases best_is r s with ⟨_, q⟩ | ⟨b, e', _, q3⟩
    · have := List.find?_some f
      exact q x (List.mem_of_find?_eq_some f) hxs
    · rw [f] at q3
      cases q3
      rw [res_one e', mem_less] at hx
      exact hx.2 rfl
theorem resid_mono : ∀ (ts : List (List Int)) {s t : List Int}, (∀ x ∈ s, x ∈ t) → ∀ x ∈ resid ts s, x ∈ resid ts t
  | [], _, _, h => h
  | r :: ts, _, _, h => resid_mono ts (res_mono h)
theorem resid_sub : ∀ (ts : List (List Int)) {s : List Int}, ∀ x ∈ resid ts s, x ∈ s
  | [], _, x, h => h
  | r :: ts, s, x, h => by
    have q := resid_sub ts x h
    unfold res at q
    exact (List.mem_filter.mp q).1
def Ranks (m : Int) (ts : List (List Int)) : Prop := ∀ r ∈ ts, ∀ x, 0 ≤ x → x < m → x ∈ r
theorem resid_len {m : Int} : ∀ {ts : List (List Int)} {s : List Int}, Ranks m ts → LotOk m s → ts.length ≤ s.length → (resid ts s).length + ts.length = s.length ∧ LotOk m (resid ts s)
  | [], s, _, h, _ => ⟨rfl, h⟩
  | r :: ts, s, hr, h, hl => by
    have hn : s ≠ [] := fun e => by rw [e] at hl; cases hl
    obtain ⟨a, b⟩ := res_len (hr r List.mem_cons_self) h hn
    have hl' : ts.length + 1 ≤ s.length := hl
    obtain ⟨c, d⟩ := resid_len (ts := ts) (s := res r s) (fun q hq => hr q (List.mem_cons_of_mem _ hq)) b (by omega)
    refine ⟨?_, d⟩
    show (resid ts (res r s)).length + (ts.length + 1) = s.length
    omega
def g0 (ts : List (List Int)) (s : List Int) : Int := (resid ts s).headD 0
theorem good0 {m : Int} {ts : List (List Int)} (hr : Ranks m ts) : Good m ts.length (g0 ts) where
  goes := fun s h hl => by
    obtain ⟨a, b⟩ := resid_len hr h (by omega)
    have l1 : (resid ts s).length = 1 := by omega
    match e : resid ts s, l1 with
    | [z], _ =>
      have : g0 ts s = z := by unfold g0; rw [e]; rfl
      rw [this]
      exact resid_sub ts z (by rw [e]; exact List.mem_singleton.mpr rfl)
  two := fun w h hl => by
    obtain ⟨a, b⟩ := resid_len hr h (by omega)
    have l1 : (resid ts w).length = 2 := by omega
    match e : resid ts w, l1 with
    | [y, z], _ =>
      have ne : y ≠ z := by
        rw [e] at b
        have := b.1.1 z (List.mem_singleton.mpr rfl)
        omega
      refine ⟨y, z, ne, resid_sub ts y (by rw [e]; simp), resid_sub ts z (by rw [e]; simp), fun x hx => ?_⟩
      have ll := len_less h.1.nodup hx
      obtain ⟨c, d⟩ := resid_len hr (h.less x) (by omega)
      have l2 : (resid ts (less w x)).length = 1 := by omega
      have mono := resid_mono ts (s := less w x) (t := w) fun q hq => (mem_less.mp hq).1
      match e2 : resid ts (less w x), l2 with
      | [q], _ =>
        have eg : g0 ts (less w x) = q := by unfold g0; rw [e2]; rfl
        rw [eg]
        have mq := mono q (by rw [e2]; exact List.mem_singleton.mpr rfl)
        rw [e] at mq
        simpa using mq
/-- one entry changed -/
def chg (g : List Int → Int) (s : List Int) (e : Int) : List Int → Int := fun t => if t = s then e else g t
theorem good_chg {m : Int} {k : Nat} {g : List Int → Int} (G : Good m k g) {s : List Int} {e : Int} (hs : LotOk m s) (he : e ∈ s) (hc : ∀ c, 0 ≤ c → c < m → c ∉ s → Two (chg g s e) (insA c s)) : Good m k (chg g s e) where
  goes := fun t ht hl => by
    unfold chg
    split
    · rename_i q; rw [q]; exact he
    · exact G.goes t ht hl
  two := fun w hw hl => by
    by_cases q : ∃ x, x ∈ w ∧ less w x = s
    · obtain ⟨x, hx, e'⟩ := q
      have hb := hw.2 x hx
      have : insA x s = w := by rw [← e']; exact ins_less hw.1 hx
      rw [← this]
      exact hc x hb.1 hb.2 (by rw [← e']; exact fun z => (mem_less.mp z).2 rfl)
    · obtain ⟨a, b, ne, ha, hb, h⟩ := G.two w hw hl
      refine ⟨a, b, ne, ha, hb, fun x hx => ?_⟩
      have : less w x ≠ s := fun z => q ⟨x, hx, z⟩
      unfold chg
      rw [if_neg this]
      exact h x hx
/-- who goes of a wide lot, each once -/
def gones (g : List Int → Int) (w : List Int) : List Int → List Int
  | [] => []
  | x :: r => g (less w x) :: gones g w r
def once (acc : List Int) (x : Int) : List Int := if x ∈ acc then acc else acc ++ [x]
def gone (g : List Int → Int) (w : List Int) : List Int := w.foldl (fun acc x => once acc (g (less w x))) []
theorem gone_mem (g : List Int → Int) (w : List Int) : ∀ (r acc : List Int) (z : Int), (z ∈ acc ∨ ∃ x ∈ r, g (less w x) = z) ↔ z ∈ r.foldl (fun acc x => once acc (g (less w x))) acc
  | [], acc, z => by simp
  | x :: r, acc, z => by
    show _ ↔ z ∈ r.foldl _ (once acc (g (less w x)))
    rw [← gone_mem g w r]
    have : z ∈ once acc (g (less w x)) ↔ z ∈ acc ∨ g (less w x) = z := by
      unfold once
      split
      · rename_i q
        constructor
        · exact .inl
        · rintro (h | h)
          · exact h
          · rw [← h]; exact q
      · rw [List.mem_append, List.mem_singleton]
        constructor
        · rintro (h | h)
          · exact .inl h
          · exact .inr h.symm
        · rintro (h | h)
          · exact .inl h
          · exact .inr h.symm
    rw [this]
    constructor
    · rintro (h | ⟨y, hy, e⟩)
      · exact .inl (.inl h)
      · rcases List.mem_cons.mp hy with e' | hy
        · rw [e'] at e; exact .inl (.inr e)
        · exact .inr ⟨y, hy, e⟩
    · rintro ((h | h) | ⟨y, hy, e⟩)
      · exact .inl h
      · exact .inr ⟨x, List.mem_cons_self, h⟩
      · exact .inr ⟨y, List.mem_cons_of_mem _ hy, e⟩
theorem gone_nodup (g : List Int → Int) (w : List Int) : ∀ (r acc : List Int), acc.Nodup → (r.foldl (fun acc x => once acc (g (less w x))) acc).Nodup
  | [], _, h => h
  | x :: r, acc, h => gone_nodup g w r _ (by
    show (if g (less w x) ∈ acc then acc else acc ++ [g (less w x)]).Nodup
    split
    · exact h
    · rename_i q
      rw [List.nodup_append]
      exact ⟨h, by simp, fun a ha b hb e => q (by rw [List.mem_singleton] at hb; rw [← hb, ← e]; exact ha)⟩)
theorem two_of_gone {g : List Int → Int} {w : List Int} (hg : ∀ x ∈ w, g (less w x) ∈ w) (h : (gone g w).length = 2) : Two g w := by
  have nd := gone_nodup g w w [] List.nodup_nil
  have mm := fun z => gone_mem g w w [] z
  change (gone g w).Nodup at nd
  change ∀ z, _ ↔ z ∈ gone g w at mm
  match e : gone g w, h with
  | [a, b], _ =>
    rw [e] at nd mm
    have ne : a ≠ b := fun z => by rw [z] at nd; simp at nd
    have get : ∀ z, z ∈ [a, b] → z ∈ w := fun z hz => by
      rcases (mm z).mpr hz with q | ⟨x, hx, q⟩
      · cases q
      · rw [← q]; exact hg x hx
    exact ⟨a, b, ne, get a (by simp), get b (by simp), fun x hx => by
      have := (mm (g (less w x))).mp (.inr ⟨x, hx, rfl⟩)
      simpa using this⟩
end Ws
end
section
set_option linter.all false
set_option maxRecDepth 100000
/-! K14: roads, what is reached, what is kept. Plain Lean. -/
namespace Ws
/-! ### roads -/
inductive Rch (rs : List (Int × Int)) (h : Int) : Int → Prop
  | refl : Rch rs h h
  | step {x y : Int} : Rch rs h x → (x, y) ∈ rs → Rch rs h y
theorem Rch.mem {rs rs' : List (Int × Int)} {h y : Int} (e : ∀ p, p ∈ rs → p ∈ rs') (r : Rch rs h y) : Rch rs' h y := by
  induction r with
  | refl => exact .refl
  | step _ m ih => exact .step ih (e _ m)
theorem Rch.from {rs : List (Int × Int)} {h t y : Int} (m : (h, t) ∈ rs) (r : Rch rs t y) : Rch rs h y := by
  induction r with
  | refl => exact .step .refl m
  | step _ m ih => exact .step ih m
theorem Rch.within {n : Int} {rs : List (Int × Int)} (hr : ∀ p ∈ rs, 0 ≤ p.1 ∧ p.1 < n ∧ 0 ≤ p.2 ∧ p.2 < n) {h y : Int} (h0 : 0 ≤ h ∧ h < n) (r : Rch rs h y) : 0 ≤ y ∧ y < n := by
  cases r with
  | refl => exact h0
  | step _ m => exact ⟨(hr _ m).2.2.1, (hr _ m).2.2.2⟩
theorem rch_of_closed {rs : List (Int × Int)} {h : Int} {xs : List Int} (hh : h ∈ xs) (hc : ∀ p ∈ rs, p.1 ∈ xs → p.2 ∈ xs) : ∀ y, Rch rs h y → y ∈ xs := by
  intro y r
  induction r with
  | refl => exact hh
  | step _ m ih => exact hc _ m ih
/-! ### what is kept -/
/-- the hands' books: places and table of each -/
abbrev Bks := List (Nat × (List Int → Int))
def bk (bs : Bks) (y : Int) : Nat × (List Int → Int) := (bs[y.toNat]?).getD (0, fun _ => 0)
def lstOf (bs : Bks) (y : Int) (s : List Int) : List Int := lst (bk bs y).2 (bk bs y).1 s
structure BksOk (m : Int) (bs : Bks) : Prop where
  good : ∀ p ∈ bs, Good m p.1 p.2
theorem BksOk.at {m : Int} {bs : Bks} (B : BksOk m bs) {y : Int} (h : 0 ≤ y ∧ y < bs.length) : Good m (bk bs y).1 (bk bs y).2 := by
  have hy : y.toNat < bs.length := by omega
  unfold bk
  rw [List.getElem?_eq_getElem hy]
  exact B.good _ (List.getElem_mem hy)
open Classical in
noncomputable def kept (bs : Bks) (W : Int → Prop) (s : List Int) : List Int := s.filter fun x => decide (∃ y, W y ∧ x ∈ lstOf bs y s)
section
variable {m : Int} {bs : Bks} {W : Int → Prop}
theorem mem_kept {s : List Int} {x : Int} : x ∈ kept bs W s ↔ x ∈ s ∧ ∃ y, W y ∧ x ∈ lstOf bs y s := by
  unfold kept
  simp [List.mem_filter]
theorem asc_kept {s : List Int} (h : Asc s) : Asc (kept bs W s) := asc_filter _ h
theorem lot_kept {s : List Int} (h : LotOk m s) : LotOk m (kept bs W s) := ⟨asc_kept h.1, fun x hx => h.2 x (mem_kept.mp hx).1⟩
/-- a lot that holds each wanted list: the same is kept -/
theorem kept_same (B : BksOk m bs) (hW : ∀ y, W y → 0 ≤ y ∧ y < bs.length) {s t : List Int} (h : LotOk m s) (ht : Asc t) (h1 : ∀ z ∈ t, z ∈ s) (h2 : ∀ y, W y → ∀ z ∈ lstOf bs y s, z ∈ t) : kept bs W t = kept bs W s := by
  have e : ∀ y, W y → lstOf bs y t = lstOf bs y s := fun y hy => lst_same (B.at (hW y hy)) h ht h1 (h2 y hy)
  refine asc_ext (asc_kept ht) (asc_kept h.1) fun x => ?_
  rw [mem_kept, mem_kept]
  constructor
  · rintro ⟨hx, y, hy, hl⟩
    exact ⟨h1 x hx, y, hy, by rw [← e y hy]; exact hl⟩
  · rintro ⟨_, y, hy, hl⟩
    exact ⟨h2 y hy x hl, y, hy, by rw [e y hy]; exact hl⟩
theorem kept_lst (B : BksOk m bs) (hW : ∀ y, W y → 0 ≤ y ∧ y < bs.length) {s : List Int} (h : LotOk m s) {y : Int} (hy : W y) : lstOf bs y (kept bs W s) = lstOf bs y s :=
  lst_same (B.at (hW y hy)) h (asc_kept h.1) (fun z hz => (mem_kept.mp hz).1) fun z hz => mem_kept.mpr ⟨lst_in hz, y, hy, hz⟩
theorem kept_kept (B : BksOk m bs) (hW : ∀ y, W y → 0 ≤ y ∧ y < bs.length) {s : List Int} (h : LotOk m s) : kept bs W (kept bs W s) = kept bs W s :=
  kept_same B hW h (asc_kept h.1) (fun z hz => (mem_kept.mp hz).1) fun y hy z hz => mem_kept.mpr ⟨lst_in hz, y, hy, hz⟩
/-- what is heard: s, then n; of n only x is told, which holds each wanted list of n -/
theorem kept_hear (B : BksOk m bs) (hW : ∀ y, W y → 0 ≤ y ∧ y < bs.length) {s n x t a : List Int} (hs : LotOk m s) (hn : LotOk m n) (ht : LotOk m t) (ha : Asc a) (et : ∀ z, z ∈ t ↔ z ∈ s ∨ z ∈ n) (ea : ∀ z, z ∈ a ↔ z ∈ kept bs W s ∨ z ∈ x)
    (hx : ∀ z ∈ x, z ∈ n) (hl : ∀ y, W y → ∀ z ∈ lstOf bs y n, z ∈ x) : kept bs W a = kept bs W t := by
  refine kept_same B hW ht ha (fun z hz => ?_) fun y hy z hz => ?_
  · rcases (ea z).mp hz with q | q
    · exact (et z).mpr (.inl (mem_kept.mp q).1)
    · exact (et z).mpr (.inr (hx z q))
  · have G := B.at (hW y hy)
    have hzt := lst_in hz
    rcases (et z).mp hzt with q | q
    · exact (ea z).mpr (.inl (mem_kept.mpr ⟨q, y, hy, lst_her G ht hs.1 (fun u hu => (et u).mpr (.inl hu)) q hz⟩))
    · exact (ea z).mpr (.inr (hl y hy z (lst_her G ht hn.1 (fun u hu => (et u).mpr (.inr hu)) q hz)))
end
/-- the lot of both -/
def uni (m : Int) (s t : List Int) : List Int := (rng 0 m).filter fun x => decide (x ∈ s) || decide (x ∈ t)
theorem mem_uni {m : Int} {s t : List Int} (hs : LotOk m s) (ht : LotOk m t) {x : Int} : x ∈ uni m s t ↔ x ∈ s ∨ x ∈ t := by
  unfold uni
  rw [List.mem_filter, mem_rng]
  simp only [Bool.or_eq_true, decide_eq_true_eq]
  constructor
  · exact fun h => h.2
  · rintro (h | h)
    · exact ⟨hs.2 x h, .inl h⟩
    · exact ⟨ht.2 x h, .inr h⟩
theorem lot_uni (m : Int) (s t : List Int) : LotOk m (uni m s t) := (lot_rng m).fil _
end Ws
end
section
set_option Elab.async false
set_option linter.all false
set_option maxRecDepth 100000
set_option maxHeartbeats 4000000
/-! K15: what stands in the heap; what each def promises. -/
namespace Ws
open PySem PySem.Spec PyProof.Rows L2
structure Cs where
  (CB CL C1 C2 C3 C4 : Addr)
/-! ### the heap -/
abbrev TupI (H : Hp) (a : Addr) (s : List Int) : Prop := H a = some (.tup (s.map V.int))
abbrev ListI (H : Hp) (a : Addr) (s : List Int) : Prop := H a = some (.lst (s.map V.int))
abbrev Lots (H : Hp) : List Addr → List (List Int) → Prop := Paired fun a s => TupI H a s
def LotL (H : Hp) (l : Addr) (ss : List (List Int)) : Prop := ∃ as : List Addr, H l = some (.lst (as.map V.ref)) ∧ Lots H as ss
def LotT (H : Hp) (l : Addr) (ss : List (List Int)) : Prop := ∃ as : List Addr, H l = some (.tup (as.map V.ref)) ∧ Lots H as ss
def pr (p : Int × Int) : List Int := [p.1, p.2]
def Seq (H : Hp) (a : Addr) (xs : List V) : Prop := H a = some (.lst xs) ∨ H a = some (.tup xs)
theorem Seq.sq {K : PySem.W.Frag} {H : Hp} {a : Addr} {xs : List V} (h : Seq H a xs) : Sq K H a xs := h.elim (fun h => .inl (SqL.of h)) fun h => .inr (SqT.of h)
/-- all but the places M is as it was -/
def Fr (M : List Addr) (H H' : Hp) : Prop := ∀ b o, b ∉ M → H b = some o → H' b = some o
/-- all but x is as it was -/
def But (x : Addr) (H H' : Hp) : Prop := ∀ b o, b ≠ x → H b = some o → H' b = some o
/-- a flat value: none, a bool, an int, a text, a tuple, a list -/
def Kd (H : Hp) : V → Prop
  | .non => True
  | .bl _ => True
  | .int _ => True
  | .str _ => True
  | .ref a => ∃ xs, Seq H a xs
  | _ => False
def isI : V → Bool
  | .int _ => true
  | _ => false
def isN : V → Bool
  | .int i => decide (0 ≤ i)
  | _ => false
def isB (m : Int) : V → Bool
  | .int i => decide (0 ≤ i) && decide (i < m)
  | _ => false
def isS : V → Bool
  | .ref _ => true
  | _ => false
def TabAt (H : Hp) (d : Addr) (m : Int) (k : Nat) (g : List Int → Int) : Prop := ∃ kvs, H d = some (.dT kvs) ∧ ∀ s, LotOk m s → s.length = k + 1 → valV kvs (s.map Sum.inl) = some (.int (g s))
def bookF (m : Int) (k : Nat) (gs d : Addr) : List (Str × V) := [("many", .int m), ("places", .int (k : Int)), ("goers", .ref gs), ("by_lot", .ref d)]
def BookAt (c : Cs) (H : Hp) (b : Addr) (m : Int) (k : Nat) (g : List Int → Int) : Prop := ∃ dx gs d, H b = some (.ins c.CB dx (bookF m k gs d)) ∧ TabAt H d m k g
def BkM (c : Cs) (H : Hp) (x : V) (m : Int) : Prop := ∃ b dx fs, x = .ref b ∧ H b = some (.ins c.CB dx fs) ∧ fs.lookup ("many" : Str) = some (.int m)
/-- the draws: at d, the numbers at l -/
def DealAt (H : Hp) (D : List Addr) : Prop := ∃ (d l : Addr) (s : Int) (ns : List Int), D = [d, l] ∧ H d = some (.lst [.ref l, .int s]) ∧ H l = some (.lst (ns.map V.int)) ∧ (0 ≤ s ∧ s < 1000000000000) ∧ (∀ n ∈ ns, 0 ≤ n) ∧ ns.length ≤ 1000
/-- all goers of a wide lot -/
def goersF (g : List Int → Int) (w : List Int) : List Int := w.filter fun t => decide (t ∈ w.map fun x => g (less w x))
def badF (m : Int) (k : Nat) (g : List Int → Int) : List (List Int) := (rows m (k + 2)).filter fun w => decide (2 < ((goersF g w).length : Int))
def steadyB (m : Int) (k : Nat) (g : List Int → Int) : Bool := decide ((((badF m k g).length : Nat) : Int) = 0)
def Raise (E : XK) (C : Addr) (H : Hp) (v : V) : Prop := ∀ (H' : Hp) (d : Addr), Same H H' → H d = none → H' d = some (.xd [(("at" : Str), v)]) → E (.ref C) (some d) H'
/-! ### promises: the program's defs -/
def sp_is_integer (_ : Cs) : Sp := fun vs H Q _ => ∃ v, vs = [v] ∧ Kd H v ∧ Q (.bl (isI v)) H
def sp_is_number (_ : Cs) : Sp := fun vs H Q _ => ∃ v, vs = [v] ∧ Kd H v ∧ Q (.bl (isN v)) H
def sp_is_below (_ : Cs) : Sp := fun vs H Q _ => ∃ (v : V) (m : Int), vs = [v, .int m] ∧ Kd H v ∧ Q (.bl (isB m v)) H
def sp_is_sequence (_ : Cs) : Sp := fun vs H Q _ => ∃ v, vs = [v] ∧ Kd H v ∧ ∀ H', Same H H' → Q (.bl (isS v)) H'
def sp_rising_rows (_ : Cs) : Sp := fun vs H Q _ => ∃ (m : Int) (k : Nat), vs = [.int m, .int (k : Int)] ∧ 0 ≤ m ∧ m ≤ 6 ∧ k ≤ 5 ∧ ∀ l H', Same H H' → H l = none → LotL H' l (rows m k) → Q (.ref l) H'
def sp_without (_ : Cs) : Sp := fun vs H Q _ => ∃ (a : Addr) (s : List Int) (x : Int), vs = [.ref a, .int x] ∧ TupI H a s ∧ s.length ≤ 1000 ∧ ∀ r H', Same H H' → TupI H' r (less s x) → Q (.ref r) H'
def sp_need_sizes (_ : Cs) : Sp := fun vs H Q _ => ∃ (m k : Int), vs = [.int m, .int k] ∧ 2 ≤ m ∧ m ≤ 9 ∧ 1 ≤ k ∧ k < m ∧ Q .non H
def sp_Book (c : Cs) : Sp := fun vs H Q _ => ∃ (x l dx : Addr) (m : Int) (k : Nat) (g : List Int → Int), vs = [.ref x, .int m, .int (k : Int), .ref l] ∧ H x = some (.ins c.CB dx []) ∧ ListI H l ((rows m (k + 1)).map g) ∧ 2 ≤ m ∧ m ≤ 6 ∧ 1 ≤ k ∧ k ≤ 4 ∧ (k : Int) < m ∧
  (∀ s ∈ rows m (k + 1), g s ∈ s) ∧ ∀ H', But x H H' → BookAt c H' x m k g → Q .non H'
def sp_need_book (c : Cs) : Sp := fun vs H Q _ => ∃ (b dx : Addr) (fs : List (Str × V)), vs = [.ref b] ∧ H b = some (.ins c.CB dx fs) ∧ Q (.ref b) H
def sp_come_along (c : Cs) : Sp := fun vs H Q _ => ∃ (b st r : Addr) (m : Int) (k : Nat) (g : List Int → Int) (t row : List Int), vs = [.ref b, .ref st, .ref r] ∧ BookAt c H b m k g ∧ Good m k g ∧ k ≤ 10 ∧ TupI H st t ∧ Stay m k t ∧ TupI H r row ∧ (∀ x ∈ row, 0 ≤ x ∧ x < m) ∧
  ∀ a H', Same H H' → TupI H' a (row.foldl (step g k) t) → Q (.ref a) H'
def sp_goer_without (c : Cs) : Sp := fun vs H Q _ => ∃ (b l : Addr) (m : Int) (k : Nat) (g : List Int → Int) (w : List Int) (x : Int), vs = [.ref b, .ref l, .int x] ∧ BookAt c H b m k g ∧ TupI H l w ∧ LotOk m w ∧ w.length = k + 2 ∧ k ≤ 10 ∧ x ∈ w ∧
  ∀ H', Same H H' → Q (.int (g (less w x))) H'
def sp_goers_of (c : Cs) : Sp := fun vs H Q _ => ∃ (b l : Addr) (m : Int) (k : Nat) (g : List Int → Int) (w : List Int), vs = [.ref b, .ref l] ∧ BookAt c H b m k g ∧ TupI H l w ∧ LotOk m w ∧ w.length = k + 2 ∧ k ≤ 10 ∧
  ∀ a H', Same H H' → TupI H' a (goersF g w) → Q (.ref a) H'
def sp_wide_lots (c : Cs) : Sp := fun vs H Q _ => ∃ (b : Addr) (m : Int) (k : Nat) (g : List Int → Int), vs = [.ref b] ∧ BookAt c H b m k g ∧ 0 ≤ m ∧ m ≤ 6 ∧ k ≤ 3 ∧ ∀ l H', Same H H' → H l = none → LotL H' l (rows m (k + 2)) → Q (.ref l) H'
def sp_bad_lots (c : Cs) : Sp := fun vs H Q _ => ∃ (b : Addr) (m : Int) (k : Nat) (g : List Int → Int), vs = [.ref b] ∧ BookAt c H b m k g ∧ 0 ≤ m ∧ m ≤ 6 ∧ k ≤ 3 ∧ ∀ (a : Addr) (xs : List V) (H' : Hp), Same H H' → H' a = some (.tup xs) → xs.length = (badF m k g).length → Q (.ref a) H'
def sp_is_steady (c : Cs) : Sp := fun vs H Q _ => ∃ (b : Addr) (m : Int) (k : Nat) (g : List Int → Int), vs = [.ref b] ∧ BookAt c H b m k g ∧ 0 ≤ m ∧ m ≤ 6 ∧ k ≤ 3 ∧ ∀ H', Same H H' → Q (.bl (steadyB m k g)) H'
def sp_need_steady (c : Cs) : Sp := fun vs H Q E => ∃ (b : Addr) (m : Int) (k : Nat) (g : List Int → Int), vs = [.ref b] ∧ BookAt c H b m k g ∧ 0 ≤ m ∧ m ≤ 6 ∧ k ≤ 3 ∧ (steadyB m k g = true → ∀ H', Same H H' → Q (.ref b) H') ∧ (steadyB m k g = false → Raise E c.C3 H (.int (-1)))
/-- what may be given as a house's books: refused at a place -/
def BooksBad (c : Cs) (H : Hp) (v : V) (at_ : Int) : Prop :=
  (Kd H v ∧ isS v = false ∧ at_ = -1) ∨ ∃ (a : Addr) (xs : List V), v = .ref a ∧ Seq H a xs ∧
    (((xs.length = 0 ∨ 6 < xs.length) ∧ at_ = -1) ∨ (1 ≤ xs.length ∧ xs.length ≤ 6 ∧ ∃ (j : Nat) (m : Int) (y : V), xs[j]? = some y ∧ at_ = (j : Int) ∧ (∀ i x, i < j → xs[i]? = some x → BkM c H x m) ∧ (Kd H y ∨ (0 < j ∧ ∃ m', m' ≠ m ∧ BkM c H y m'))))
def BooksOk (c : Cs) (H : Hp) (v : V) (xs : List V) : Prop := ∃ (a : Addr) (m : Int), v = .ref a ∧ Seq H a xs ∧ 1 ≤ xs.length ∧ xs.length ≤ 6 ∧ ∀ x ∈ xs, BkM c H x m
def sp_need_house_books (c : Cs) : Sp := fun vs H Q E => ∃ v, vs = [v] ∧ ((∃ (at_ : Int), BooksBad c H v at_ ∧ Raise E c.C1 H (.int at_)) ∨ ∃ (xs : List V), BooksOk c H v xs ∧ ∀ t H', Same H H' → H' t = some (.tup xs) → Q (.ref t) H')
/-- books of a row -/
structure BkAt (c : Cs) (H : Hp) (m : Int) (b : Addr) (p : Nat × (List Int → Int)) : Prop where
  at_ : BookAt c H b m p.1 p.2
  k3 : p.1 ≤ 3
def sp_need_steady_books (c : Cs) : Sp := fun vs H Q E => ∃ (t : Addr) (as : List Addr) (m : Int) (bs : Bks), vs = [.ref t] ∧ H t = some (.tup (as.map V.ref)) ∧ Paired (BkAt c H m) as bs ∧ 0 ≤ m ∧ m ≤ 6 ∧
  ((∀ p ∈ bs, steadyB m p.1 p.2 = true) → ∀ H', Same H H' → Q .non H') ∧ ((∃ p ∈ bs, steadyB m p.1 p.2 = false) → Raise E c.C3 H (.int (-1)))
def sp_kept_by (c : Cs) : Sp := fun vs H Q _ => ∃ (l r : Addr) (as : List Addr) (m : Int) (bs : Bks) (s : List Int), vs = [.ref l, .ref r] ∧ H l = some (.lst (as.map V.ref)) ∧ Paired (BkAt c H m) as bs ∧ (∀ p ∈ bs, Good m p.1 p.2) ∧ as.length ≤ 10 ∧ TupI H r s ∧ LotOk m s ∧ s.length ≤ 10 ∧
  ∀ a H' b, Same H H' → (∀ x, b x = true ↔ ∃ p ∈ bs, x ∈ lst p.2 p.1 s) → TupI H' a (s.filter b) → Q (.ref a) H'
/-! ### roads -/
def RdOk (n : Int) (p : Int × Int) : Prop := 0 ≤ p.1 ∧ p.1 < n ∧ 0 ≤ p.2 ∧ p.2 < n ∧ p.1 ≠ p.2
def RdAt (H : Hp) (x : V) (p : Int × Int) : Prop := ∃ a, x = .ref a ∧ Seq H a [.int p.1, .int p.2]
def RdBad (H : Hp) (n : Int) (rs : List (Int × Int)) (x : V) : Prop :=
  (Kd H x ∧ isS x = false) ∨ (∃ a ys, x = .ref a ∧ Seq H a ys ∧ ys.length ≠ 2) ∨ (∃ a y z, x = .ref a ∧ Seq H a [y, z] ∧ Kd H y ∧ Kd H z ∧ (isB n y && isB n z) = false) ∨
    (∃ p, RdAt H x p ∧ 0 ≤ p.1 ∧ p.1 < n ∧ 0 ≤ p.2 ∧ p.2 < n ∧ (p.1 = p.2 ∨ p ∈ rs))
def RoadsBad (H : Hp) (v : V) (n : Int) (at_ : Int) : Prop :=
  (Kd H v ∧ isS v = false ∧ at_ = -1) ∨ ∃ (a : Addr) (xs : List V) (j : Nat) (y : V) (rs : List (Int × Int)), v = .ref a ∧ Seq H a xs ∧ xs.length ≤ 1000 ∧ xs[j]? = some y ∧ at_ = (j : Int) ∧ Paired (RdAt H) (xs.take j) rs ∧ (∀ p ∈ rs, RdOk n p) ∧ rs.Nodup ∧ RdBad H n rs y
def RoadsOk (H : Hp) (v : V) (n : Int) (rs : List (Int × Int)) : Prop := ∃ (a : Addr) (xs : List V), v = .ref a ∧ Seq H a xs ∧ xs.length ≤ 1000 ∧ Paired (RdAt H) xs rs ∧ (∀ p ∈ rs, RdOk n p) ∧ rs.Nodup
def rdLe (p q : Int × Int) : Prop := p.1 < q.1 ∨ (p.1 = q.1 ∧ p.2 ≤ q.2)
def sp_need_roads (c : Cs) : Sp := fun vs H Q E => ∃ (v : V) (n : Int), vs = [v, .int n] ∧ ((∃ (at_ : Int), RoadsBad H v n at_ ∧ Raise E c.C2 H (.int at_)) ∨
  ∃ (rs : List (Int × Int)), RoadsOk H v n rs ∧ ∀ (t : Addr) (rs' : List (Int × Int)) (H' : Hp), Same H H' → rs'.Perm rs → rs'.Pairwise rdLe → LotT H' t (rs'.map pr) → Q (.ref t) H')
def RdsOk (n : Int) (rs : List (Int × Int)) : Prop := n ≤ 4 ∧ rs.length ≤ 16 ∧ ∀ p ∈ rs, RdOk n p
def sp_reached_from (_ : Cs) : Sp := fun vs H Q _ => ∃ (t : Addr) (h n : Int) (rs : List (Int × Int)), vs = [.ref t, .int h] ∧ LotT H t (rs.map pr) ∧ RdsOk n rs ∧ 0 ≤ h ∧ h < n ∧
  ∀ (l : Addr) (xs : List Int) (H' : Hp), Same H H' → H l = none → ListI H' l xs → xs.length ≤ 4 → (∀ y, y ∈ xs ↔ Rch rs h y) → Q (.ref l) H'
def sp_wanted_books (_ : Cs) : Sp := fun vs H Q _ => ∃ (b t : Addr) (h : Int) (as : List Addr) (rs : List (Int × Int)), vs = [.ref b, .ref t, .int h] ∧ H b = some (.tup (as.map V.ref)) ∧ LotT H t (rs.map pr) ∧ RdsOk as.length rs ∧ 0 ≤ h ∧ h < as.length ∧
  ∀ (l : Addr) (xs : List Int) (as' : List Addr) (H' : Hp), Same H H' → H l = none → H' l = some (.lst (as'.map V.ref)) → Paired (fun a y => as[Int.toNat y]? = some a) as' xs → xs.length ≤ 4 → (∀ y, y ∈ xs ↔ Rch rs h y) → Q (.ref l) H'
/-! ### a house that lives -/
structure Hs where
  m : Int
  bs : Bks
  rs : List (Int × Int)
def Hs.n (s : Hs) : Int := s.bs.length
structure Hs.Ok (s : Hs) : Prop where
  m0 : 0 ≤ s.m
  m6 : s.m ≤ 6
  bks : BksOk s.m s.bs
  k3 : ∀ p ∈ s.bs, 1 ≤ p.1 ∧ p.1 ≤ 3 ∧ (p.1 : Int) < s.m
  rds : RdsOk s.n s.rs
  nd : s.rs.Nodup
  asc : s.rs.Pairwise rdLe
  n1 : 1 ≤ s.bs.length
noncomputable def Hs.kept (s : Hs) (h : Nat) (t : List Int) : List Int := Ws.kept s.bs (Rch s.rs (h : Int)) t
noncomputable def keptFrom (s : Hs) : Nat → List (List Int) → List (List Int)
  | _, [] => []
  | h, t :: r => s.kept h t :: keptFrom s (h + 1) r
noncomputable abbrev Hs.keptL (s : Hs) (ss : List (List Int)) : List (List Int) := keptFrom s 0 ss
def liveF (bt rt kt el ll : Addr) : List (Str × V) := [("books", .ref bt), ("roads", .ref rt), ("kept", .ref kt), ("elder_states", .ref el), ("later_states", .ref ll)]
structure HeardOk (s : Hs) (ss : List (List Int)) : Prop where
  len : ss.length = s.bs.length
  ok : ∀ t ∈ ss, LotOk s.m t
def StAt (H : Hp) (s : Hs) (bt rt : Addr) (a : Addr) (ss : List (List Int)) : Prop := ∃ kt, H a = some (.tup [.ref bt, .ref rt, .ref kt]) ∧ LotT H kt (s.keptL ss) ∧ HeardOk s ss
structure LiveIn (c : Cs) (s : Hs) (H : Hp) (p dx bt rt kt el ll : Addr) (as ea la : List Addr) (ss : List (List Int)) (elder later : List (List (List Int))) : Prop where
  ins : H p = some (.ins c.CL dx (liveF bt rt kt el ll))
  books : H bt = some (.tup (as.map V.ref))
  bks : Paired (BkAt c H s.m) as s.bs
  roads : LotT H rt (s.rs.map pr)
  kept : LotT H kt (s.keptL ss)
  heard : HeardOk s ss
  els : H el = some (.lst (ea.map V.ref))
  lls : H ll = some (.lst (la.map V.ref))
  ne : el ≠ ll
  ela : Paired (StAt H s bt rt) ea elder
  lla : Paired (StAt H s bt rt) la later
  le : elder.length ≤ 1000
  ll' : later.length ≤ 1000
def LiveAt (c : Cs) (s : Hs) (H : Hp) (O : List Addr) (ss : List (List Int)) (elder later : List (List (List Int))) : Prop :=
  ∃ p dx bt rt kt el ll as ea la, O = [p, el, ll] ∧ LiveIn c s H p dx bt rt kt el ll as ea la ss elder later
/-- what is owned grows by what is new -/
def Own (H : Hp) (O O' : List Addr) : Prop := ∀ b ∈ O', b ∈ O ∨ H b = none
/-- what .books gives of a new house -/
def BooksAt (c : Cs) (H : Hp) (x : Addr) (xs : List V) : Prop := ∃ dx fs bt, H x = some (.ins c.CL dx fs) ∧ fs.lookup ("books" : Str) = some (.ref bt) ∧ H bt = some (.tup xs)
def sp_Live (c : Cs) : Sp := fun vs H Q E => ∃ (x dx : Addr) (b r : V), vs = [.ref x, b, r] ∧ H x = some (.ins c.CL dx []) ∧ H dx = some (.own x) ∧
  ((∃ (at_ : Int), BooksBad c H b at_ ∧ ∀ (H' : Hp) (d : Addr), But x H H' → H d = none → H' d = some (.xd [(("at" : Str), .int at_)]) → E (.ref c.C1) (some d) H') ∨
   (∃ (xs : List V) (at_ : Int), BooksOk c H b xs ∧ RoadsBad H r xs.length at_ ∧ ∀ (H' : Hp) (d : Addr), But x H H' → H d = none → H' d = some (.xd [(("at" : Str), .int at_)]) → E (.ref c.C2) (some d) H') ∨
   (∃ (as : List Addr) (m : Int) (bs : Bks) (rs : List (Int × Int)), BooksOk c H b (as.map V.ref) ∧ RoadsOk H r as.length rs ∧ 0 ≤ m ∧ m ≤ 6 ∧ Paired (BkAt c H m) as bs ∧ (∃ p ∈ bs, steadyB m p.1 p.2 = false) ∧ ∀ (H' : Hp) (d : Addr), But x H H' → H d = none → H' d = some (.xd [(("at" : Str), .int (-1))]) → E (.ref c.C3) (some d) H') ∨
   (∃ (as : List Addr) (s : Hs) (rs : List (Int × Int)), s.Ok ∧ BooksOk c H b (as.map V.ref) ∧ Paired (BkAt c H s.m) as s.bs ∧ (∀ p ∈ s.bs, steadyB s.m p.1 p.2 = true) ∧ RoadsOk H r as.length rs ∧ rs.Perm s.rs ∧
     ∀ (H' : Hp) (el ll : Addr), But x H H' → H el = none → H ll = none → LiveAt c s H' [x, el, ll] (s.bs.map fun _ => []) [] [] → BooksAt c H' x (as.map V.ref) → Q .non H'))
def sp_Live_need_hand (c : Cs) : Sp := fun vs H Q E => ∃ (p : Addr) (s : Hs) (O : List Addr) (ss : List (List Int)) (el la : List (List (List Int))) (v : V) (w : Str), vs = [.ref p, v, .str w] ∧ O.head? = some p ∧ LiveAt c s H O ss el la ∧ Kd H v ∧ (isB s.n v = true → Q .non H) ∧ (isB s.n v = false → Raise E c.C4 H (.str w))
def sp_Live_need_two_hands (c : Cs) : Sp := fun vs H Q E => ∃ (p : Addr) (s : Hs) (O : List Addr) (ss : List (List Int)) (el la : List (List (List Int))) (v w : V), vs = [.ref p, v, w] ∧ O.head? = some p ∧ LiveAt c s H O ss el la ∧ Kd H v ∧ Kd H w ∧ (isB s.n v = true → isB s.n w = true → Q .non H) ∧
  (isB s.n v = false → Raise E c.C4 H (.str "hand")) ∧ (isB s.n v = true → isB s.n w = false → Raise E c.C4 H (.str "to"))
def sp_Live_list_of (c : Cs) : Sp := fun vs H Q E => ∃ (p : Addr) (s : Hs) (O : List Addr) (ss : List (List Int)) (el la : List (List (List Int))) (v : V), vs = [.ref p, v] ∧ O.head? = some p ∧ LiveAt c s H O ss el la ∧ s.Ok ∧ Kd H v ∧ (isB s.n v = false → Raise E c.C4 H (.str "hand")) ∧
  (∀ (h : Nat) t, v = .int (h : Int) → ss[h]? = some t → ∀ a H', Same H H' → TupI H' a (lstOf s.bs h t) → Q (.ref a) H')
/-- what is dropped of a at hand h -/
noncomputable def dropF (s : Hs) (h : Nat) (a t : List Int) : List (List Int) := (a.filter fun x => !decide (x ∈ s.kept h t)).map fun x => [(h : Int), x]
def LiveGo (c : Cs) (s : Hs) (H : Hp) (O : List Addr) (ss : List (List Int)) (el : List (List (List Int))) (h : Nat) (a t : List Int) (Q : VK) : Prop :=
  ∀ (r : Addr) (H' : Hp) (O' : List Addr), Fr O H H' → Own H O O' → O'.head? = O.head? → LiveAt c s H' O' (ss.set h t) (el ++ [ss]) [] → LotT H' r (dropF s h a t) → Q (.ref r) H'
def sp_Live_settle (c : Cs) : Sp := fun vs H Q _ => ∃ (p b r l : Addr) (s : Hs) (O : List Addr) (ss : List (List Int)) (el la : List (List (List Int))) (h : Nat) (a t u : List Int) (dx bt rt kt e2 l2 : Addr) (as ea lla : List Addr), vs = [.ref p, .ref b, .ref r, .ref l] ∧ O = [p, e2, l2] ∧ LiveIn c s H p dx bt rt kt e2 l2 as ea lla ss el la ∧ s.Ok ∧ b = bt ∧ r = rt ∧ el.length ≤ 900 ∧
  ss[h]? = some u ∧ LotL H l ((s.keptL ss).set h a) ∧ l ∉ O ∧ LotOk s.m a ∧ LotOk s.m t ∧ s.kept h a = s.kept h t ∧ LiveGo c s H O ss el h a t Q
/-- of the hand that hears n, told as x -/
def HearOk (s : Hs) (h : Nat) (n x : List Int) : Prop := LotOk s.m n ∧ LotOk s.m x ∧ (∀ z ∈ x, z ∈ n) ∧ ∀ y, Rch s.rs (h : Int) y → ∀ z ∈ lstOf s.bs y n, z ∈ x
def sp_Live_hear (c : Cs) : Sp := fun vs H Q _ => ∃ (p r : Addr) (s : Hs) (O : List Addr) (ss : List (List Int)) (el la : List (List (List Int))) (h : Nat) (u n x : List Int), vs = [.ref p, .int (h : Int), .ref r] ∧ O.head? = some p ∧ LiveAt c s H O ss el la ∧ s.Ok ∧ el.length ≤ 900 ∧ ss[h]? = some u ∧ TupI H r x ∧ HearOk s h n x ∧
  LiveGo c s H O ss el h (uni s.m (s.kept h u) x) (uni s.m u n) Q
def sp_Live_come (c : Cs) : Sp := fun vs H Q E => ∃ (p : Addr) (s : Hs) (O : List Addr) (ss : List (List Int)) (el la : List (List (List Int))) (v w : V), vs = [.ref p, v, w] ∧ O.head? = some p ∧ LiveAt c s H O ss el la ∧ s.Ok ∧ el.length ≤ 900 ∧ Kd H v ∧ Kd H w ∧
  (isB s.n v = false → Raise E c.C4 H (.str "hand")) ∧ (isB s.n v = true → isB s.m w = false → Raise E c.C4 H (.str "thing")) ∧
  (∀ (h : Nat) (x : Int) u, v = .int (h : Int) → w = .int x → ss[h]? = some u → 0 ≤ x → x < s.m → LiveGo c s H O ss el h (uni s.m (s.kept h u) [x]) (uni s.m u [x]) Q)
def sp_Live_send (c : Cs) : Sp := fun vs H Q E => ∃ (p : Addr) (s : Hs) (O : List Addr) (ss : List (List Int)) (el la : List (List (List Int))) (v w : V), vs = [.ref p, v, w] ∧ O.head? = some p ∧ LiveAt c s H O ss el la ∧ s.Ok ∧ el.length ≤ 900 ∧ Kd H v ∧ Kd H w ∧
  (isB s.n v = false → Raise E c.C4 H (.str "hand")) ∧ (isB s.n v = true → isB s.n w = false → Raise E c.C4 H (.str "to")) ∧
  (∀ (i j : Int), v = .int i → w = .int j → 0 ≤ i → i < s.n → 0 ≤ j → j < s.n → (i, j) ∉ s.rs → Raise E c.C4 H (.str "road")) ∧
  (∀ (i j : Nat) u u2, v = .int (i : Int) → w = .int (j : Int) → ss[i]? = some u → ss[j]? = some u2 → ((i : Int), (j : Int)) ∈ s.rs → LiveGo c s H O ss el j (uni s.m (s.kept j u2) (s.kept i u)) (uni s.m u2 u) Q)
def sp_Live_undo_deed (c : Cs) : Sp := fun vs H Q _ => ∃ (p : Addr) (s : Hs) (O : List Addr) (ss : List (List Int)) (el la : List (List (List Int))), vs = [.ref p] ∧ O.head? = some p ∧ LiveAt c s H O ss el la ∧ la.length ≤ 900 ∧ (el = [] → Q (.bl false) H) ∧
  (∀ e t, el = e ++ [t] → ∀ (H' : Hp) (O' : List Addr), Fr O H H' → Own H O O' → O'.head? = O.head? → LiveAt c s H' O' t e (la ++ [ss]) → Q (.bl true) H')
def sp_Live_redo_deed (c : Cs) : Sp := fun vs H Q _ => ∃ (p : Addr) (s : Hs) (O : List Addr) (ss : List (List Int)) (el la : List (List (List Int))), vs = [.ref p] ∧ O.head? = some p ∧ LiveAt c s H O ss el la ∧ el.length ≤ 900 ∧ (la = [] → Q (.bl false) H) ∧
  (∀ e t, la = e ++ [t] → ∀ (H' : Hp) (O' : List Addr), Fr O H H' → Own H O O' → O'.head? = O.head? → LiveAt c s H' O' t (el ++ [ss]) e → Q (.bl true) H')
/-! ### promises: the law's defs -/
def sp__law_draw (K : PySem.W.Frag) (_ : Cs) : Sp := fun vs H Q _ => ∃ (a : Addr) (ns : List Int) (z : Int), vs = [.ref a, .int z] ∧ SqL K H a (ns.map V.int) ∧ ns.length ≤ 63 ∧ 0 ≤ z ∧ z ≤ 1000 ∧ ∀ d l H', Same H H' → H d = none → H l = none → DealAt H' [d, l] → Q (.ref d) H'
def sp__law_any (_ : Cs) : Sp := fun vs H Q _ => ∃ (d l : Addr) (b : Int), vs = [.ref d, .int b] ∧ DealAt H [d, l] ∧ 1 ≤ b ∧ b ≤ 1000 ∧ ∀ r H', Fr [d, l] H H' → DealAt H' [d, l] → 0 ≤ r → r < b → Q (.int r) H'
def sp__law_of (_ : Cs) : Sp := fun vs H Q _ => ∃ (d l a : Addr) (xs : List V), vs = [.ref d, .ref a] ∧ DealAt H [d, l] ∧ Seq H a xs ∧ a ∉ [d, l] ∧ 1 ≤ xs.length ∧ xs.length ≤ 1000 ∧ ∀ (i : Nat) (x : V) (H' : Hp), xs[i]? = some x → Fr [d, l] H H' → DealAt H' [d, l] → Q x H'
def sp__law_order (_ : Cs) : Sp := fun vs H Q _ => ∃ (d l : Addr) (m : Int), vs = [.ref d, .int m] ∧ DealAt H [d, l] ∧ 0 ≤ m ∧ m ≤ 10 ∧ ∀ (r : Addr) (xs : List Int) (H' : Hp), Fr [d, l] H H' → DealAt H' [d, l] → H r = none → ListI H' r xs → xs.length ≤ 10 → (∀ x, 0 ≤ x → x < m → x ∈ xs) → Q (.ref r) H'
def sp__law_rows (c : Cs) : Sp := sp_rising_rows c
def sp__law_less (c : Cs) : Sp := sp_without c
abbrev RksAt (H : Hp) : List Addr → List (List Int) → Prop := Paired fun a r => ListI H a r
def sp__law_taken (_ : Cs) : Sp := fun vs H Q _ => ∃ (t a : Addr) (ras : List Addr) (ts : List (List Int)) (s : List Int), vs = [.ref t, .ref a] ∧ H t = some (.lst (ras.map V.ref)) ∧ RksAt H ras ts ∧ ras.length ≤ 10 ∧ (∀ r ∈ ts, r.length ≤ 10) ∧ TupI H a s ∧ s.length ≤ 10 ∧
  ∀ (l : Addr) (xs : List Int) (H' : Hp), Same H H' → ListI H' l xs → (s.filter fun x => !decide (x ∈ xs)) = resid ts s → xs.length ≤ 10 → Q (.ref l) H'
def sp__law_calm (_ : Cs) : Sp := fun vs H Q _ => ∃ (d a : Addr) (m : Int) (k : Nat) (g : List Int → Int) (s : List Int), vs = [.ref d, .ref a, .int m] ∧ TabAt H d m k g ∧ (∀ s, LotOk m s → s.length = k + 1 → g s ∈ s) ∧ TupI H a s ∧ LotOk m s ∧ s.length = k + 1 ∧ k ≤ 10 ∧ 0 ≤ m ∧ m ≤ 10 ∧
  ∀ b H', Same H H' → (b = true → ∀ x, 0 ≤ x → x < m → x ∉ s → Two g (insA x s)) → Q (.bl b) H'
def sp__law_table (_ : Cs) : Sp := fun vs H Q _ => ∃ (d l t : Addr) (m n : Int) (ras : List Addr) (ts : List (List Int)), vs = [.ref d, .ref t, .int m, .int n] ∧ DealAt H [d, l] ∧ H t = some (.lst (ras.map V.ref)) ∧ RksAt H ras ts ∧ t ∉ [d, l] ∧ (∀ a ∈ ras, a ∉ [d, l]) ∧ (∀ r ∈ ts, r.length ≤ 10) ∧ Ranks m ts ∧
  1 ≤ ras.length ∧ ras.length ≤ 3 ∧ (ras.length : Int) < m ∧ m ≤ 5 ∧ 0 ≤ n ∧ n ≤ 10 ∧ ∀ (r : Addr) (g : List Int → Int) (H' : Hp), Fr [d, l] H H' → DealAt H' [d, l] → H r = none → TabAt H' r m ras.length g → Good m ras.length g → Q (.ref r) H'
def sp__law_list (_ : Cs) : Sp := fun vs H Q _ => ∃ (d a : Addr) (m : Int) (k : Nat) (g : List Int → Int) (s : List Int), vs = [.ref d, .int (k : Int), .ref a] ∧ TabAt H d m k g ∧ Good m k g ∧ k ≤ 10 ∧ TupI H a s ∧ LotOk m s ∧ ∀ r H', Same H H' → TupI H' r (lst g k s) → Q (.ref r) H'
def sp__law_truth (_ : Cs) : Sp := fun vs H Q _ => ∃ (a b : Bool), vs = [.bl a, .bl b] ∧ Q (.bl (a == b)) H
def EntAt (H : Hp) (m : Int) (t : Addr) (p : Nat × (List Int → Int)) : Prop := ∃ d, H t = some (.tup [.int (p.1 : Int), .ref d]) ∧ TabAt H d m p.1 p.2
def HouseAt (H : Hp) (m : Int) (l : Addr) (bs : Bks) : Prop := ∃ ts : List Addr, H l = some (.lst (ts.map V.ref)) ∧ Paired (EntAt H m) ts bs
def HBks (m : Int) (bs : Bks) : Prop := ∀ p ∈ bs, Good m p.1 p.2 ∧ 1 ≤ p.1 ∧ p.1 ≤ 3 ∧ (p.1 : Int) < m
def sp__law_house (_ : Cs) : Sp := fun vs H Q _ => ∃ (d l : Addr) (m : Int), vs = [.ref d, .int m] ∧ DealAt H [d, l] ∧ 3 ≤ m ∧ m ≤ 5 ∧ ∀ (r : Addr) (bs : Bks) (H' : Hp), Fr [d, l] H H' → DealAt H' [d, l] → H r = none → HouseAt H' m r bs → HBks m bs → 1 ≤ bs.length → bs.length ≤ 4 → Q (.ref r) H'
/-- what _law_reach gives: the first is the hand itself; each other came along a road from one ahead -/
structure ReachOk (rs : List (Int × Int)) (h : Int) (xs : List (Int × Int)) : Prop where
  head : ∃ r, xs = (h, h) :: r
  nd : (xs.map (·.1)).Nodup
  mem : ∀ y, y ∈ xs.map (·.1) ↔ Rch rs h y
  way : ∀ (i : Nat) (p : Int × Int), 0 < i → xs[i]? = some p → (p.2, p.1) ∈ rs ∧ ∃ (j : Nat) (q : Int × Int), j < i ∧ xs[j]? = some q ∧ q.1 = p.2
def sp__law_reach (_ : Cs) : Sp := fun vs H Q _ => ∃ (t : Addr) (h n : Int) (rs : List (Int × Int)), vs = [.ref t, .int h] ∧ LotL H t (rs.map pr) ∧ RdsOk n rs ∧ 0 ≤ h ∧ h < n ∧ ∀ (l : Addr) (xs : List (Int × Int)) (H' : Hp), Same H H' → H l = none → LotL H' l (xs.map pr) → xs.length ≤ 4 → ReachOk rs h xs → Q (.ref l) H'
def sp__law_kept (_ : Cs) : Sp := fun vs H Q _ => ∃ (hl t a : Addr) (s : Hs) (h : Nat) (u : List Int), vs = [.ref hl, .ref t, .int (h : Int), .ref a] ∧ HouseAt H s.m hl s.bs ∧ LotL H t (s.rs.map pr) ∧ s.Ok ∧ h < s.bs.length ∧ TupI H a u ∧ LotOk s.m u ∧ u.length ≤ 10 ∧ ∀ r H', Same H H' → TupI H' r (s.kept h u) → Q (.ref r) H'
def sp__law_wrong (c : Cs) : Sp := fun vs H Q _ => ∃ (p hl t he : Addr) (s : Hs) (O : List Addr) (ss : List (List Int)) (el la : List (List (List Int))), vs = [.ref p, .ref hl, .ref t, .ref he] ∧ O.head? = some p ∧ LiveAt c s H O ss el la ∧ s.Ok ∧ HouseAt H s.m hl s.bs ∧ LotL H t (s.rs.map pr) ∧ LotL H he ss ∧ ∀ H', Same H H' → Q (.bl false) H'
/-- a refusal that is due -/
def RefCase (s : Hs) (H : Hp) (w : Str) (xs : List V) (want : Str) : Prop :=
  (∃ x y, w = "come" ∧ xs = [x, y] ∧ Kd H x ∧ Kd H y ∧ ((isB s.n x = false ∧ want = "hand") ∨ (isB s.n x = true ∧ isB s.m y = false ∧ want = "thing"))) ∨
  (∃ x y, w = "send" ∧ xs = [x, y] ∧ Kd H x ∧ Kd H y ∧ ((isB s.n x = false ∧ want = "hand") ∨ (isB s.n x = true ∧ isB s.n y = false ∧ want = "to") ∨ (∃ i j, x = .int i ∧ y = .int j ∧ 0 ≤ i ∧ i < s.n ∧ 0 ≤ j ∧ j < s.n ∧ (i, j) ∉ s.rs ∧ want = "road"))) ∨
  (∃ x, w = "list" ∧ xs = [x] ∧ Kd H x ∧ isB s.n x = false ∧ want = "hand")
def sp__law_refused (c : Cs) : Sp := fun vs H Q _ => ∃ (p a : Addr) (w want : Str) (xs : List V) (s : Hs) (O : List Addr) (ss : List (List Int)) (el la : List (List (List Int))), vs = [.ref p, .str w, .ref a] ∧ O.head? = some p ∧ LiveAt c s H O ss el la ∧ s.Ok ∧ el.length ≤ 900 ∧ H a = some (.tup xs) ∧ RefCase s H w xs want ∧ ∀ H', Same H H' → Q (.str want) H'
def sp__law_bad (_ : Cs) : Sp := fun vs H Q _ => ∃ (d l t : Addr) (s : Hs), vs = [.ref d, .int s.m, .int s.n, .ref t] ∧ DealAt H [d, l] ∧ LotL H t (s.rs.map pr) ∧ s.Ok ∧ t ∉ [d, l] ∧
  ∀ (r a : Addr) (w want : Str) (xs : List V) (H' : Hp), Fr [d, l] H H' → DealAt H' [d, l] → H' r = some (.tup [.str w, .ref a, .str want]) → H' a = some (.tup xs) → RefCase s H' w xs want → Q (.ref r) H'
def sp__law_deeds (c : Cs) : Sp := fun vs H Q _ => ∃ (d l p hl t : Addr) (s : Hs) (O : List Addr), vs = [.ref d, .ref p, .ref hl, .ref t, .int s.m] ∧ DealAt H [d, l] ∧ O.head? = some p ∧ LiveAt c s H O (s.bs.map fun _ => []) [] [] ∧ s.Ok ∧ HouseAt H s.m hl s.bs ∧ LotL H t (s.rs.map pr) ∧ 3 ≤ s.m ∧
  (∀ a ∈ O, a ∉ [d, l]) ∧ hl ∉ d :: l :: O ∧ t ∉ d :: l :: O ∧
  ∀ (r he : Addr) (ss : List (List Int)) (el la : List (List (List Int))) (O' : List Addr) (H' : Hp), Fr (d :: l :: O) H H' → DealAt H' [d, l] → Own H O O' → O'.head? = some p → LiveAt c s H' O' ss el la → el.length ≤ 100 → la.length ≤ 100 → H' r = some (.tup [.bl true, .ref he]) → LotL H' he ss → he ∉ d :: l :: O' → Q (.ref r) H'
def sp__law_alone (c : Cs) : Sp := fun vs H Q _ => ∃ (hl bl t a : Addr) (s : Hs) (as : List Addr) (h : Nat) (u : List Int), vs = [.ref hl, .ref bl, .ref t, .int (h : Int), .ref a] ∧ HouseAt H s.m hl s.bs ∧ H bl = some (.lst (as.map V.ref)) ∧ Paired (BkAt c H s.m) as s.bs ∧ (∀ p ∈ s.bs, steadyB s.m p.1 p.2 = true) ∧ LotL H t (s.rs.map pr) ∧ s.Ok ∧ h < s.bs.length ∧
  TupI H a u ∧ LotOk s.m u ∧ u.length ≤ 10 ∧ ∀ H', Same H H' → Q (.bl true) H'
def BuiltCase (c : Cs) (H : Hp) (b r : V) (w : Str) (at_ : Int) : Prop :=
  (BooksBad c H b at_ ∧ w = "book") ∨ (∃ (xs : List V), BooksOk c H b xs ∧ RoadsBad H r xs.length at_ ∧ w = "roads") ∨
  (∃ (as : List Addr) (m : Int) (bs : Bks) (rs : List (Int × Int)), BooksOk c H b (as.map V.ref) ∧ RoadsOk H r as.length rs ∧ 0 ≤ m ∧ m ≤ 6 ∧ Paired (BkAt c H m) as bs ∧ (∃ p ∈ bs, steadyB m p.1 p.2 = false) ∧ w = "steady" ∧ at_ = -1)
def sp__law_built (c : Cs) : Sp := fun vs H Q _ => ∃ (b r : V) (w : Str) (at_ : Int), vs = [b, r] ∧ BuiltCase c H b r w at_ ∧ ∀ t H', Same H H' → H' t = some (.tup [.str w, .int at_]) → Q (.ref t) H'
def sp__law_refusals (c : Cs) : Sp := fun vs H Q _ => ∃ (d l bl t : Addr) (s : Hs) (as : List Addr), vs = [.ref d, .ref bl, .ref t, .int s.m] ∧ DealAt H [d, l] ∧ H bl = some (.lst (as.map V.ref)) ∧ Paired (BkAt c H s.m) as s.bs ∧ LotL H t (s.rs.map pr) ∧ s.Ok ∧ s.bs.length ≤ 4 ∧ 3 ≤ s.m ∧ s.m ≤ 5 ∧ bl ∉ [d, l] ∧ t ∉ [d, l] ∧ ∀ H', Fr [d, l] H H' → Q (.bl true) H'
def sp_law (K : PySem.W.Frag) (_ : Cs) : Sp := fun vs H Q _ => ∃ (a : Addr) (ns : List Int), vs = [.ref a] ∧ SqL K H a (ns.map V.int) ∧ ns.length ≤ 63 ∧ ∀ H', Q (.bl true) H'
end Ws
end
section
set_option Elab.async false
set_option linter.all false
set_option maxRecDepth 100000
set_option maxHeartbeats 4000000
namespace Ws
open PySem PySem.Spec PyProof.Rows L2
set_option autoImplicit false
abbrev s_is_integer : Stmt := top 9
theorem sc_is_integer : FnScope ["value"] ["value"] (defScope s_is_integer) := ⟨rfl, rfl, rfl, by decide +kernel, rfl, by decide +kernel, by decide +kernel⟩
abbrev s_is_number : Stmt := top 10
theorem sc_is_number : FnScope ["value"] ["value"] (defScope s_is_number) := ⟨rfl, rfl, rfl, by decide +kernel, rfl, by decide +kernel, by decide +kernel⟩
abbrev s_is_below : Stmt := top 11
theorem sc_is_below : FnScope ["value", "many"] ["value", "many"] (defScope s_is_below) := ⟨rfl, rfl, rfl, by decide +kernel, rfl, by decide +kernel, by decide +kernel⟩
abbrev s_is_sequence : Stmt := top 12
theorem sc_is_sequence : FnScope ["value"] ["value"] (defScope s_is_sequence) := ⟨rfl, rfl, rfl, by decide +kernel, rfl, by decide +kernel, by decide +kernel⟩
abbrev s_rising_rows : Stmt := top 13
theorem sc_rising_rows : FnScope ["many", "size", "rows", "turn", "row", "one"] ["many", "size"] (defScope s_rising_rows) := ⟨rfl, rfl, rfl, by decide +kernel, rfl, by decide +kernel, by decide +kernel⟩
abbrev s_without : Stmt := top 14
theorem sc_without : FnScope ["lot", "thing", "one"] ["lot", "thing"] (defScope s_without) := ⟨rfl, rfl, rfl, by decide +kernel, rfl, by decide +kernel, by decide +kernel⟩
abbrev s_need_sizes : Stmt := top 17
theorem sc_need_sizes : FnScope ["many", "places"] ["many", "places"] (defScope s_need_sizes) := ⟨rfl, rfl, rfl, by decide +kernel, rfl, by decide +kernel, by decide +kernel⟩
abbrev s_Book : Stmt := inClass (top 18) 0
theorem sc_Book : FnScope ["self", "many", "places", "goers", "lots", "at", "lot", "goer"] ["self", "many", "places", "goers"] (defScope s_Book) := ⟨rfl, rfl, rfl, by decide +kernel, rfl, by decide +kernel, by decide +kernel⟩
abbrev s_need_book : Stmt := top 19
theorem sc_need_book : FnScope ["value"] ["value"] (defScope s_need_book) := ⟨rfl, rfl, rfl, by decide +kernel, rfl, by decide +kernel, by decide +kernel⟩
abbrev s_come_along : Stmt := top 20
theorem sc_come_along : FnScope ["book", "stays", "row", "thing"] ["book", "stays", "row"] (defScope s_come_along) := ⟨rfl, rfl, rfl, by decide +kernel, rfl, by decide +kernel, by decide +kernel⟩
abbrev s_goer_without : Stmt := top 22
theorem sc_goer_without : FnScope ["book", "lot", "thing"] ["book", "lot", "thing"] (defScope s_goer_without) := ⟨rfl, rfl, rfl, by decide +kernel, rfl, by decide +kernel, by decide +kernel⟩
abbrev s_goers_of : Stmt := top 23
theorem sc_goers_of : FnScope ["book", "lot", "thing", "one"] ["book", "lot"] (defScope s_goers_of) := ⟨rfl, rfl, rfl, by decide +kernel, rfl, by decide +kernel, by decide +kernel⟩
abbrev s_wide_lots : Stmt := top 24
theorem sc_wide_lots : FnScope ["book"] ["book"] (defScope s_wide_lots) := ⟨rfl, rfl, rfl, by decide +kernel, rfl, by decide +kernel, by decide +kernel⟩
abbrev s_bad_lots : Stmt := top 25
theorem sc_bad_lots : FnScope ["book", "lot"] ["book"] (defScope s_bad_lots) := ⟨rfl, rfl, rfl, by decide +kernel, rfl, by decide +kernel, by decide +kernel⟩
abbrev s_is_steady : Stmt := top 26
theorem sc_is_steady : FnScope ["book"] ["book"] (defScope s_is_steady) := ⟨rfl, rfl, rfl, by decide +kernel, rfl, by decide +kernel, by decide +kernel⟩
abbrev s_need_steady : Stmt := top 27
theorem sc_need_steady : FnScope ["value"] ["value"] (defScope s_need_steady) := ⟨rfl, rfl, rfl, by decide +kernel, rfl, by decide +kernel, by decide +kernel⟩
abbrev s_need_house_books : Stmt := top 30
theorem sc_need_house_books : FnScope ["value", "at", "book"] ["value"] (defScope s_need_house_books) := ⟨rfl, rfl, rfl, by decide +kernel, rfl, by decide +kernel, by decide +kernel⟩
abbrev s_need_steady_books : Stmt := top 31
theorem sc_need_steady_books : FnScope ["books", "book"] ["books"] (defScope s_need_steady_books) := ⟨rfl, rfl, rfl, by decide +kernel, rfl, by decide +kernel, by decide +kernel⟩
abbrev s_kept_by : Stmt := top 32
theorem sc_kept_by : FnScope ["books", "lot", "told", "book", "thing"] ["books", "lot"] (defScope s_kept_by) := ⟨rfl, rfl, rfl, by decide +kernel, rfl, by decide +kernel, by decide +kernel⟩
abbrev s_need_roads : Stmt := top 33
theorem sc_need_roads : FnScope ["value", "hands", "roads", "at", "road", "hand"] ["value", "hands"] (defScope s_need_roads) := ⟨rfl, rfl, rfl, by decide +kernel, rfl, by decide +kernel, by decide +kernel⟩
abbrev s_reached_from : Stmt := top 34
theorem sc_reached_from : FnScope ["roads", "hand", "reached", "at", "start", "end"] ["roads", "hand"] (defScope s_reached_from) := ⟨rfl, rfl, rfl, by decide +kernel, rfl, by decide +kernel, by decide +kernel⟩
abbrev s_wanted_books : Stmt := top 35
theorem sc_wanted_books : FnScope ["books", "roads", "hand", "one"] ["books", "roads", "hand"] (defScope s_wanted_books) := ⟨rfl, rfl, rfl, by decide +kernel, rfl, by decide +kernel, by decide +kernel⟩
abbrev s_Live : Stmt := inClass (top 36) 0
theorem sc_Live : FnScope ["self", "books", "roads", "book"] ["self", "books", "roads"] (defScope s_Live) := ⟨rfl, rfl, rfl, by decide +kernel, rfl, by decide +kernel, by decide +kernel⟩
abbrev s_Live_need_hand : Stmt := inClass (top 36) 1
theorem sc_Live_need_hand : FnScope ["self", "value", "word"] ["self", "value", "word"] (defScope s_Live_need_hand) := ⟨rfl, rfl, rfl, by decide +kernel, rfl, by decide +kernel, by decide +kernel⟩
abbrev s_Live_need_two_hands : Stmt := inClass (top 36) 2
theorem sc_Live_need_two_hands : FnScope ["self", "hand", "to"] ["self", "hand", "to"] (defScope s_Live_need_two_hands) := ⟨rfl, rfl, rfl, by decide +kernel, rfl, by decide +kernel, by decide +kernel⟩
abbrev s_Live_list_of : Stmt := inClass (top 36) 3
theorem sc_Live_list_of : FnScope ["self", "hand"] ["self", "hand"] (defScope s_Live_list_of) := ⟨rfl, rfl, rfl, by decide +kernel, rfl, by decide +kernel, by decide +kernel⟩
abbrev s_Live_settle : Stmt := inClass (top 36) 4
theorem sc_Live_settle : FnScope ["self", "books", "roads", "had", "kept", "dropped", "hand", "lot", "thing"] ["self", "books", "roads", "had"] (defScope s_Live_settle) := ⟨rfl, rfl, rfl, by decide +kernel, rfl, by decide +kernel, by decide +kernel⟩
abbrev s_Live_hear : Stmt := inClass (top 36) 5
theorem sc_Live_hear : FnScope ["self", "hand", "lot", "had", "thing"] ["self", "hand", "lot"] (defScope s_Live_hear) := ⟨rfl, rfl, rfl, by decide +kernel, rfl, by decide +kernel, by decide +kernel⟩
abbrev s_Live_come : Stmt := inClass (top 36) 6
theorem sc_Live_come : FnScope ["self", "hand", "thing"] ["self", "hand", "thing"] (defScope s_Live_come) := ⟨rfl, rfl, rfl, by decide +kernel, rfl, by decide +kernel, by decide +kernel⟩
abbrev s_Live_send : Stmt := inClass (top 36) 7
theorem sc_Live_send : FnScope ["self", "hand", "to"] ["self", "hand", "to"] (defScope s_Live_send) := ⟨rfl, rfl, rfl, by decide +kernel, rfl, by decide +kernel, by decide +kernel⟩
abbrev s_Live_undo_deed : Stmt := inClass (top 36) 12
theorem sc_Live_undo_deed : FnScope ["self"] ["self"] (defScope s_Live_undo_deed) := ⟨rfl, rfl, rfl, by decide +kernel, rfl, by decide +kernel, by decide +kernel⟩
abbrev s_Live_redo_deed : Stmt := inClass (top 36) 13
theorem sc_Live_redo_deed : FnScope ["self"] ["self"] (defScope s_Live_redo_deed) := ⟨rfl, rfl, rfl, by decide +kernel, rfl, by decide +kernel, by decide +kernel⟩
abbrev s__law_draw : Stmt := top 38
theorem sc__law_draw : FnScope ["_law_script", "_law_salt", "_law_cell", "_law_cells", "_law_blend"] ["_law_script", "_law_salt"] (defScope s__law_draw) := ⟨rfl, rfl, rfl, by decide +kernel, rfl, by decide +kernel, by decide +kernel⟩
abbrev s__law_any : Stmt := top 39
theorem sc__law_any : FnScope ["_law_deal", "_law_bound", "_law_rest"] ["_law_deal", "_law_bound"] (defScope s__law_any) := ⟨rfl, rfl, rfl, by decide +kernel, rfl, by decide +kernel, by decide +kernel⟩
abbrev s__law_of : Stmt := top 40
theorem sc__law_of : FnScope ["_law_deal", "_law_some"] ["_law_deal", "_law_some"] (defScope s__law_of) := ⟨rfl, rfl, rfl, by decide +kernel, rfl, by decide +kernel, by decide +kernel⟩
abbrev s__law_order : Stmt := top 41
theorem sc__law_order : FnScope ["_law_deal", "_law_many", "_law_left", "_law_order_here", "_law_turn"] ["_law_deal", "_law_many"] (defScope s__law_order) := ⟨rfl, rfl, rfl, by decide +kernel, rfl, by decide +kernel, by decide +kernel⟩
abbrev s__law_rows : Stmt := top 42
theorem sc__law_rows : FnScope ["_law_many", "_law_size", "_law_rows_here", "_law_turn", "_law_longer", "_law_row", "_law_one"] ["_law_many", "_law_size"] (defScope s__law_rows) := ⟨rfl, rfl, rfl, by decide +kernel, rfl, by decide +kernel, by decide +kernel⟩
abbrev s__law_less : Stmt := top 43
theorem sc__law_less : FnScope ["_law_lot", "_law_thing", "_law_one"] ["_law_lot", "_law_thing"] (defScope s__law_less) := ⟨rfl, rfl, rfl, by decide +kernel, rfl, by decide +kernel, by decide +kernel⟩
abbrev s__law_taken : Stmt := top 44
theorem sc__law_taken : FnScope ["_law_tastes", "_law_lot", "_law_left", "_law_taken_here", "_law_ranking", "_law_one", "_law_best"] ["_law_tastes", "_law_lot"] (defScope s__law_taken) := ⟨rfl, rfl, rfl, by decide +kernel, rfl, by decide +kernel, by decide +kernel⟩
abbrev s__law_calm : Stmt := top 45
theorem sc__law_calm : FnScope ["_law_table_here", "_law_lot", "_law_many", "_law_comer", "_law_wide", "_law_gone", "_law_one", "_law_goer"] ["_law_table_here", "_law_lot", "_law_many"] (defScope s__law_calm) := ⟨rfl, rfl, rfl, by decide +kernel, rfl, by decide +kernel, by decide +kernel⟩
abbrev s__law_table : Stmt := top 46
theorem sc__law_table : FnScope ["_law_deal", "_law_tastes", "_law_many", "_law_turns", "_law_table_here", "_law_lot", "_law_one", "_law_lots", "_law_turn", "_law_elder"] ["_law_deal", "_law_tastes", "_law_many", "_law_turns"] (defScope s__law_table) := ⟨rfl, rfl, rfl, by decide +kernel, rfl, by decide +kernel, by decide +kernel⟩
abbrev s__law_list : Stmt := top 47
theorem sc__law_list : FnScope ["_law_table_here", "_law_places", "_law_lot", "_law_stays", "_law_thing"] ["_law_table_here", "_law_places", "_law_lot"] (defScope s__law_list) := ⟨rfl, rfl, rfl, by decide +kernel, rfl, by decide +kernel, by decide +kernel⟩
abbrev s__law_truth : Stmt := top 48
theorem sc__law_truth : FnScope ["_law_value", "_law_due"] ["_law_value", "_law_due"] (defScope s__law_truth) := ⟨rfl, rfl, rfl, by decide +kernel, rfl, by decide +kernel, by decide +kernel⟩
abbrev s__law_house : Stmt := top 49
theorem sc__law_house : FnScope ["_law_deal", "_law_many", "_law_turn", "_law_rankings", "_law_house_here", "_law_hand", "_law_places", "_law_kind", "_law_tastes"] ["_law_deal", "_law_many"] (defScope s__law_house) := ⟨rfl, rfl, rfl, by decide +kernel, rfl, by decide +kernel, by decide +kernel⟩
abbrev s__law_reach : Stmt := top 50
theorem sc__law_reach : FnScope ["_law_roads", "_law_hand", "_law_reached", "_law_turn", "_law_start", "_law_end", "_law_one", "_law_road", "_law_known"] ["_law_roads", "_law_hand"] (defScope s__law_reach) := ⟨rfl, rfl, rfl, by decide +kernel, rfl, by decide +kernel, by decide +kernel⟩
abbrev s__law_kept : Stmt := top 51
theorem sc__law_kept : FnScope ["_law_house_here", "_law_roads", "_law_hand", "_law_heard", "_law_told", "_law_one", "_law_road", "_law_thing"] ["_law_house_here", "_law_roads", "_law_hand", "_law_heard"] (defScope s__law_kept) := ⟨rfl, rfl, rfl, by decide +kernel, rfl, by decide +kernel, by decide +kernel⟩
abbrev s__law_wrong : Stmt := top 52
theorem sc__law_wrong : FnScope ["_law_live", "_law_house_here", "_law_roads", "_law_heard", "_law_hand", "_law_lot", "_law_due"] ["_law_live", "_law_house_here", "_law_roads", "_law_heard"] (defScope s__law_wrong) := ⟨rfl, rfl, rfl, by decide +kernel, rfl, by decide +kernel, by decide +kernel⟩
abbrev s__law_refused : Stmt := top 53
theorem sc__law_refused : FnScope ["_law_live", "_law_word", "_law_values", "e"] ["_law_live", "_law_word", "_law_values"] (defScope s__law_refused) := ⟨rfl, rfl, rfl, by decide +kernel, rfl, by decide +kernel, by decide +kernel⟩
abbrev s__law_bad : Stmt := top 54
theorem sc__law_bad : FnScope ["_law_deal", "_law_many", "_law_hands", "_law_roads", "_law_odd", "_law_kind", "_law_ends", "_law_hand", "_law_to"] ["_law_deal", "_law_many", "_law_hands", "_law_roads"] (defScope s__law_bad) := ⟨rfl, rfl, rfl, by decide +kernel, rfl, by decide +kernel, by decide +kernel⟩
abbrev s__law_deeds : Stmt := top 55
theorem sc__law_deeds : FnScope ["_law_deal", "_law_live", "_law_house_here", "_law_roads", "_law_many", "_law_heard", "_law_past", "_law_later", "_law_turn", "_law_kind", "_law_before", "_law_bad_here", "_law_some", "_law_aim", "_law_to", "_law_hand", "_law_more", "_law_thing", "_law_had", "_law_told", "_law_kept_here"] ["_law_deal", "_law_live", "_law_house_here", "_law_roads", "_law_many"] (defScope s__law_deeds) := ⟨rfl, rfl, rfl, by decide +kernel, rfl, by decide +kernel, by decide +kernel⟩
abbrev s__law_alone : Stmt := top 56
theorem sc__law_alone : FnScope ["_law_house_here", "_law_books", "_law_roads", "_law_hand", "_law_lot", "_law_live", "_law_thing", "_law_one", "_law_road"] ["_law_house_here", "_law_books", "_law_roads", "_law_hand", "_law_lot"] (defScope s__law_alone) := ⟨rfl, rfl, rfl, by decide +kernel, rfl, by decide +kernel, by decide +kernel⟩
abbrev s__law_built : Stmt := top 57
theorem sc__law_built : FnScope ["_law_books", "_law_roads", "e"] ["_law_books", "_law_roads"] (defScope s__law_built) := ⟨rfl, rfl, rfl, by decide +kernel, rfl, by decide +kernel, by decide +kernel⟩
abbrev s__law_refusals : Stmt := top 58
theorem sc__law_refusals : FnScope ["_law_deal", "_law_books", "_law_roads", "_law_many", "_law_hands", "_law_at", "_law_lot", "_law_other", "_law_wild", "_law_odd", "_law_spoilt", "_law_due", "_law_road", "_law_place", "_law_less_here", "_law_bad_here"] ["_law_deal", "_law_books", "_law_roads", "_law_many"] (defScope s__law_refusals) := ⟨rfl, rfl, rfl, by decide +kernel, rfl, by decide +kernel, by decide +kernel⟩
abbrev s_law : Stmt := top 59
theorem sc_law : FnScope ["_law_script", "_law_deal", "_law_many", "_law_house_here", "_law_roads", "_law_hand", "_law_to", "_law_books", "_law_places", "_law_table_here", "_law_lot", "_law_mixed", "_law_road", "_law_one", "_law_given", "_law_live", "_law_twin", "_law_good", "_law_heard"] ["_law_script"] (defScope s_law) := ⟨rfl, rfl, rfl, by decide +kernel, rfl, by decide +kernel, by decide +kernel⟩
end Ws
end
section
set_option Elab.async false
set_option linter.all false
set_option maxRecDepth 100000
set_option maxHeartbeats 4000000
namespace Ws
open PySem PySem.Spec PyProof.Rows L2
set_option autoImplicit false
/-! K17: helps for the readings. -/
theorem Same.put {H0 H : Hp} {p : Addr} {o : HO} (s : Same H0 H) (h : H p = none) : Same H0 (upd H p o) := fun b u e => by
  have e' := s b u e
  rw [upd_ne (ne_of_none e' h)]
  exact e'
theorem Same.new {H : Hp} {p : Addr} {o : HO} (h : H p = none) : Same H (upd H p o) := Same.put (Same.refl H) h
/-- a change at a place that was free -/
theorem Same.chg {H0 H : Hp} {p : Addr} {o : HO} (s : Same H0 H) (h : H0 p = none) : Same H0 (upd H p o) := fun b u e => by
  rw [upd_ne (ne_of_none e h)]
  exact s b u e
theorem Fr.refl (M : List Addr) (H : Hp) : Fr M H H := fun _ _ _ e => e
theorem Fr.trans {M : List Addr} {H H1 H2 : Hp} (a : Fr M H H1) (b : Fr M H1 H2) : Fr M H H2 := fun x o n e => b x o n (a x o n e)
theorem Same.fr {H H' : Hp} (M : List Addr) (s : Same H H') : Fr M H H' := fun b o _ e => s b o e
theorem Fr.same {H H1 H2 : Hp} {M : List Addr} (a : Fr M H H1) (b : Same H1 H2) : Fr M H H2 := fun x o n e => b x o (a x o n e)
theorem Same.thenFr {H H1 H2 : Hp} {M : List Addr} (a : Same H H1) (b : Fr M H1 H2) : Fr M H H2 := fun x o n e => b x o n (a x o e)
theorem Fr.chg {H0 H : Hp} {M : List Addr} {p : Addr} {o : HO} (s : Fr M H0 H) (h : H0 p = none ∨ p ∈ M) : Fr M H0 (upd H p o) := fun b u n e => by
  have : b ≠ p := fun z => by
    rcases h with h | h
    · rw [← z, e] at h; cases h
    · exact n (z ▸ h)
  rw [upd_ne this]
  exact s b u n e
theorem Fr.free {H H' : Hp} {M : List Addr} (s : Fr M H H') {p : Addr} (n : p ∉ M) (h : H' p = none) : H p = none := by
  cases e : H p with
  | none => rfl
  | some o => rw [s p o n e] at h; cases h
theorem But.refl (x : Addr) (H : Hp) : But x H H := fun _ _ _ e => e
theorem But.put {x : Addr} {H0 H : Hp} {p : Addr} {o : HO} (s : But x H0 H) (h : H0 p = none) : But x H0 (upd H p o) := fun b u n e => by
  rw [upd_ne (ne_of_none e h)]
  exact s b u n e
theorem But.self {x : Addr} {H0 H : Hp} {o : HO} (s : But x H0 H) : But x H0 (upd H x o) := fun b u n e => by
  rw [upd_ne n]
  exact s b u n e
theorem But.same {x : Addr} {H H1 H2 : Hp} (a : But x H H1) (b : Same H1 H2) : But x H H2 := fun y o n e => b y o (a y o n e)
theorem Paired.map' {α β : Type} {F G : α → β → Prop} : ∀ {l₁ : List α} {l₂ : List β}, Paired F l₁ l₂ → (∀ a b, F a b → G a b) → Paired G l₁ l₂
  | _, _, .nil, _ => .nil
  | _, _, .cons r t, f => .cons (f _ _ r) (Paired.map' t f)
theorem Paired.len' {α β : Type} {F : α → β → Prop} : ∀ {l₁ : List α} {l₂ : List β}, Paired F l₁ l₂ → l₁.length = l₂.length
  | _, _, .nil => rfl
  | _, _, .cons _ t => congrArg Nat.succ (Paired.len' t)
theorem Paired.at {α β : Type} {F : α → β → Prop} : ∀ {l₁ : List α} {l₂ : List β} {i : Nat} {a : α}, Paired F l₁ l₂ → l₁[i]? = some a → ∃ b, l₂[i]? = some b ∧ F a b
  | _, _, _, _, .nil, e => by cases e
  | _, _, 0, _, .cons r _, e => by cases e; exact ⟨_, rfl, r⟩
  | _, _, i + 1, _, .cons _ t, e => Paired.at (i := i) t e
theorem Paired.at2 {α β : Type} {F : α → β → Prop} : ∀ {l₁ : List α} {l₂ : List β} {i : Nat} {b : β}, Paired F l₁ l₂ → l₂[i]? = some b → ∃ a, l₁[i]? = some a ∧ F a b
  | _, _, _, _, .nil, e => by cases e
  | _, _, 0, _, .cons r _, e => by cases e; exact ⟨_, rfl, r⟩
  | _, _, i + 1, _, .cons _ t, e => Paired.at2 (i := i) t e
theorem Paired.app {α β : Type} {F : α → β → Prop} : ∀ {l₁ : List α} {l₂ : List β} {a : α} {b : β}, Paired F l₁ l₂ → F a b → Paired F (l₁ ++ [a]) (l₂ ++ [b])
  | _, _, _, _, .nil, r => .cons r .nil
  | _, _, _, _, .cons r t, q => .cons r (Paired.app t q)
theorem Paired.app2 {α β : Type} {F : α → β → Prop} : ∀ {l₁ l₁' : List α} {l₂ l₂' : List β}, Paired F l₁ l₂ → Paired F l₁' l₂' → Paired F (l₁ ++ l₁') (l₂ ++ l₂')
  | _, _, _, _, .nil, r => r
  | _, _, _, _, .cons r t, q => .cons r (Paired.app2 t q)
theorem Lots.same {H H' : Hp} {as : List Addr} {ss : List (List Int)} (h : Lots H as ss) (s : Same H H') : Lots H' as ss := Paired.map' h fun _ _ e => s _ _ e
theorem LotL.same {H H' : Hp} {l : Addr} {ss : List (List Int)} (h : LotL H l ss) (s : Same H H') : LotL H' l ss := by
  obtain ⟨as, e, p⟩ := h
  exact ⟨as, s _ _ e, p.same s⟩
theorem LotT.same {H H' : Hp} {l : Addr} {ss : List (List Int)} (h : LotT H l ss) (s : Same H H') : LotT H' l ss := by
  obtain ⟨as, e, p⟩ := h
  exact ⟨as, s _ _ e, p.same s⟩
theorem Seq.same {H H' : Hp} {a : Addr} {xs : List V} (h : Seq H a xs) (s : Same H H') : Seq H' a xs := h.elim (fun h => .inl (s _ _ h)) fun h => .inr (s _ _ h)
theorem TabAt.same {H H' : Hp} {d : Addr} {m : Int} {k : Nat} {g : List Int → Int} (h : TabAt H d m k g) (s : Same H H') : TabAt H' d m k g := by
  obtain ⟨kvs, e, q⟩ := h
  exact ⟨kvs, s _ _ e, q⟩
theorem BookAt.same {c : Cs} {H H' : Hp} {b : Addr} {m : Int} {k : Nat} {g : List Int → Int} (h : BookAt c H b m k g) (s : Same H H') : BookAt c H' b m k g := by
  obtain ⟨dx, gs, d, e, t⟩ := h
  exact ⟨dx, gs, d, s _ _ e, t.same s⟩
theorem Kd.same {H H' : Hp} {v : V} (h : Kd H v) (s : Same H H') : Kd H' v := by
  cases v with
  | ref a => obtain ⟨xs, e⟩ := h; exact ⟨xs, e.same s⟩
  | non => trivial
  | bl _ => trivial
  | int _ => trivial
  | str _ => trivial
  | byt _ => exact h
  | flt _ => exact h
  | ty _ => exact h
/-- a dict's entry of a lot -/
theorem TabAt.get {H : Hp} {d b : Addr} {m : Int} {k : Nat} {g : List Int → Int} {s : List Int} (h : TabAt H d m k g) (hs : LotOk m s) (hl : s.length = k + 1) (hb : TupI H b s) : DGet H d (.ref b) (some (.int (g s))) := by
  obtain ⟨kvs, e, q⟩ := h
  rw [← q s hs hl]
  refine DGet.t e ?_
  rw [hb, List.map_map]
  rfl
theorem small_k {n : Nat} (h : n ≤ 1000000) : n ≤ sizeLine := Nat.le_trans h (by decide)
theorem small_lt {n : Nat} (h : n ≤ 1000000) : n < sizeLine := Nat.lt_of_le_of_lt h (by decide)
/-! ### isinstance of flat values -/
def isIB : V → Bool
  | .int _ => true
  | .bl _ => true
  | _ => false
def isBl : V → Bool
  | .bl _ => true
  | _ => false
section
variable {K : PySem.W.Frag} {H : Hp} {v : V}
theorem kd_ty (h : Kd H v) : ∃ t, TyX K H v t ∧ PySem.W.kitOne K t (.type "int") = some (isIB v) ∧ PySem.W.kitOne K t (.type "bool") = some (isBl v) ∧ PySem.W.kitAny K t [.type "list", .type "tuple"] = some (isS v) := by
  have an : ∀ {a : String} {p q : Bool}, kitB a "list" = some p → kitB a "tuple" = some q → PySem.W.kitAny K (.type a) [.type "list", .type "tuple"] = some (p || q) := fun {a p q} h1 h2 => by
    have e1 := kit_ty (K := K) h1
    have e2 := kit_ty (K := K) h2
    unfold PySem.W.kitAny
    rw [e1]
    cases p with
    | true => rfl
    | false =>
      show PySem.W.kitAny K (.type a) [.type "tuple"] = _
      unfold PySem.W.kitAny
      rw [e2]
      cases q <;> rfl
  cases v with
  | non => exact ⟨_, .base .non, kit_ty (by decide +kernel : kitB "NoneType" "int" = some false), kit_ty (by decide +kernel : kitB "NoneType" "bool" = some false), an (by decide +kernel : _ = some false) (by decide +kernel : _ = some false)⟩
  | bl b => exact ⟨_, .base (.bl b), kit_ty (by decide +kernel : kitB "bool" "int" = some true), kit_ty (by decide +kernel : kitB "bool" "bool" = some true), an (by decide +kernel : _ = some false) (by decide +kernel : _ = some false)⟩
  | int i => exact ⟨_, .base (.int i), kit_ty (by decide +kernel : kitB "int" "int" = some true), kit_ty (by decide +kernel : kitB "int" "bool" = some false), an (by decide +kernel : _ = some false) (by decide +kernel : _ = some false)⟩
  | str x => exact ⟨_, .base (.str x), kit_ty (by decide +kernel : kitB "str" "int" = some false), kit_ty (by decide +kernel : kitB "str" "bool" = some false), an (by decide +kernel : _ = some false) (by decide +kernel : _ = some false)⟩
  | ref a =>
    obtain ⟨xs, e | e⟩ := h
    · exact ⟨_, .base (.lst e), kit_ty (by decide +kernel : kitB "list" "int" = some false), kit_ty (by decide +kernel : kitB "list" "bool" = some false), an (by decide +kernel : _ = some true) (by decide +kernel : _ = some false)⟩
    · exact ⟨_, .base (.tup e), kit_ty (by decide +kernel : kitB "tuple" "int" = some false), kit_ty (by decide +kernel : kitB "tuple" "bool" = some false), an (by decide +kernel : _ = some false) (by decide +kernel : _ = some true)⟩
  | byt _ => exact h.elim
  | flt _ => exact h.elim
  | ty _ => exact h.elim
end
end Ws
end
section
set_option Elab.async false
set_option linter.all false
set_option maxRecDepth 100000
set_option maxHeartbeats 4000000
namespace Ws
open PySem PySem.Spec PyProof.Rows L2
set_option autoImplicit false
/-! K18: comprehensions with one for over things that stand. -/
def Stb {α : Type} (R : α → V → Hp → Prop) : Prop := ∀ x y (H H' : Hp), (∀ t ys, H t = some (.tup ys) → H' t = some (.tup ys)) → R x y H → R x y H'
theorem Stb.same {α : Type} {R : α → V → Hp → Prop} (h : Stb R) {as : List α} {ys : List V} {H H' : Hp} (s : Same H H') (p : Paired (fun x y => R x y H) as ys) : Paired (fun x y => R x y H') as ys := Paired.map' p fun x y r => h x y H H' (fun t zs e => s _ _ e) r
theorem filter_more {α : Type} (b : α → Bool) {as : List α} {j : Nat} {x : α} (e : as[j]? = some x) : (as.take (j + 1)).filter b = (as.take j).filter b ++ (if b x = true then [x] else []) := by
  rw [List.take_add_one, e, List.filter_append]
  show _ ++ List.filter b [x] = _
  rw [List.filter_cons]
  rfl
theorem lc_any {α : Type} {J : It} {H1 : Hp} {D : Addr} {σ : L2.St} {i : Nat} {tt : TT} {te : TE} {Qd : Hp → Prop} (as : List α) (f : α → V) (b : α → Bool) (R : α → V → Hp → Prop) (hR : Stb R) (hD : H1 D = none) (hlen : as.length ≤ 1000)
    (hgo : ∀ (j : Nat) x H, as[j]? = some x → Same H1 H → J.go j H ∧ ∀ v H', J.yld j H v H' → H' = H ∧ v = f x) (hstop : ∀ H, Same H1 H → J.stop as.length H)
    (ht : ∀ x ∈ as, ∀ H', Same H1 H' → ∀ Rb : Bool → Hp → Prop, (∀ H'', Same H' H'' → Rb (b x) H'') → tt ((wipe σ [i]).set i (some (f x))) H' Rb)
    (he : ∀ x ∈ as, b x = true → ∀ H', Same H1 H' → ∀ Rq : VK, (∀ y H'', Same H' H'' → R x y H'' → Rq y H'') → te ((wipe σ [i]).set i (some (f x))) H' Rq)
    (hd : ∀ ys H', Same H1 H' → H' D = some (.lst ys) → Paired (fun x y => R x y H') (as.filter b) ys → Qd H') :
    ∃ W : Nat → Nat → Hp → Prop, (∃ m, W 0 m (upd H1 D (.lst []))) ∧ ∀ i' m H, W i' m H →
      (J.stop i' H ∧ Qd H) ∨ (J.go i' H ∧ ∃ Nx : Hp → Prop, (∀ H', Nx H' → ∃ m', m' < m ∧ W (i' + 1) m' H') ∧ ∀ x H', J.yld i' H x H' → gName i x (wipe σ [i]) H' fun σ2 H2 => wipe σ2 [i] = wipe σ [i] ∧ tt σ2 H2 fun b H3 =>
        if b = true then te σ2 H3 fun y H4 => ∃ acc, H4 D = some (.lst acc) ∧ acc.length < sizeLine ∧ Nx (upd H4 D (.lst (acc ++ [y]))) else Nx H3) := by
  let Pv : Nat → Hp → Prop := fun j H => Same H1 H ∧ ∃ ys, H D = some (.lst ys) ∧ Paired (fun x y => R x y H) ((as.take j).filter b) ys
  refine ⟨fun j m H => m = as.length - j ∧ j ≤ as.length ∧ Pv j H, ⟨as.length, by simp, Nat.zero_le _, Same.chg (Same.refl _) hD, [], upd_same, .nil⟩, ?_⟩
  rintro j m H ⟨rfl, hj, s, ys, hDy, pp⟩
  by_cases hlt : j < as.length
  · obtain ⟨x, hx⟩ : ∃ x, as[j]? = some x := ⟨as[j], by simp [hlt]⟩
    have hm := List.mem_of_getElem? hx
    obtain ⟨g1, g2⟩ := hgo j x H hx s
    have hmore := filter_more b hx
    refine .inr ⟨g1, Pv (j + 1), fun H' p' => ⟨as.length - (j + 1), by omega, rfl, hlt, p'⟩, fun v H' y => ?_⟩
    obtain ⟨rfl, rfl⟩ := g2 v H' y
    show wipe ((wipe σ [i]).set i (some (f x))) [i] = wipe σ [i] ∧ _
    refine ⟨by show ((σ.set i none).set i (some (f x))).set i none = σ.set i none; rw [List.set_set, List.set_set], ?_⟩
    refine ht x hm H' s _ fun H2 s2 => ?_
    cases hb : b x with
    | true =>
      rw [hb] at hmore
      refine iteT (he x hm hb H2 (s.trans s2) _ fun y H3 s3 r => ⟨ys, s3 _ _ (s2 _ _ hDy), ?_, ?_⟩)
      · have l1 := Paired.len' pp
        have l2 := List.length_filter_le b (as.take j)
        have l3 : (as.take j).length ≤ as.length := by rw [List.length_take]; omega
        exact small_lt (by omega)
      · have s4 : Same H1 H3 := (s.trans s2).trans s3
        refine ⟨Same.chg s4 hD, ys ++ [y], upd_same, ?_⟩
        have st : ∀ t zs, H3 t = some (.tup zs) → (upd H3 D (.lst (ys ++ [y]))) t = some (.tup zs) := fun t zs e => by
          rw [upd_ne (ne_of e (s3 _ _ (s2 _ _ hDy)) (by intro q; cases q))]
          exact e
        rw [hmore]
        refine Paired.app ?_ (hR _ _ _ _ st r)
        exact Paired.map' (hR.same (s2.trans s3) pp) fun a y' r' => hR _ _ _ _ st r'
    | false =>
      rw [hb] at hmore
      refine iteF ⟨s.trans s2, ys, s2 _ _ hDy, ?_⟩
      rw [hmore, if_neg Bool.false_ne_true, List.append_nil]
      exact hR.same s2 pp
  · have e : j = as.length := by omega
    subst e
    rw [List.take_length] at pp
    exact .inl ⟨hstop H s, hd ys H s hDy pp⟩
section
variable {α : Type} {K : PySem.W.Frag} {a : Addr} {H1 : Hp} {D : Addr} {σ : L2.St} {i : Nat} {tt : TT} {te : TE} {Qd : Hp → Prop}
theorem walkT {xs : List V} (h : H1 a = some (.tup xs)) : (∀ (j : Nat) x H, xs[j]? = some x → Same H1 H → (Itt K a).go j H ∧ ∀ v H', (Itt K a).yld j H v H' → H' = H ∧ v = x) ∧ ∀ H, Same H1 H → (Itt K a).stop xs.length H := by
  refine ⟨fun j x H e s => ⟨⟨xs, x, SqT.of (s _ _ h), e⟩, fun v H' y => ?_⟩, fun H s => ⟨xs, SqT.of (s _ _ h), Nat.le_refl _⟩⟩
  obtain ⟨e1, y⟩ := y
  have q := y xs (SqT.of (s _ _ h))
  rw [e] at q
  exact ⟨e1, (Option.some.inj q).symm⟩
theorem walkL {xs : List V} (h : H1 a = some (.lst xs)) : (∀ (j : Nat) x H, xs[j]? = some x → Same H1 H → (Itl K a).go j H ∧ ∀ v H', (Itl K a).yld j H v H' → H' = H ∧ v = x) ∧ ∀ H, Same H1 H → (Itl K a).stop xs.length H := by
  refine ⟨fun j x H e s => ⟨⟨xs, x, SqL.of (s _ _ h), e⟩, fun v H' y => ?_⟩, fun H s => ⟨xs, SqL.of (s _ _ h), Nat.le_refl _⟩⟩
  obtain ⟨e1, y⟩ := y
  have q := y xs (SqL.of (s _ _ h))
  rw [e] at q
  exact ⟨e1, (Option.some.inj q).symm⟩
theorem map_at {as : List α} {f : α → V} {j : Nat} {x : α} (e : as[j]? = some x) : (as.map f)[j]? = some (f x) := by rw [List.getElem?_map, e]; rfl
/-- over a tuple -/
theorem lc_fmT (as : List α) (f : α → V) (b : α → Bool) (R : α → V → Hp → Prop) (hR : Stb R) (hT : H1 a = some (.tup (as.map f))) (hD : H1 D = none) (hlen : as.length ≤ 1000)
    (ht : ∀ x ∈ as, ∀ H', Same H1 H' → ∀ Rb : Bool → Hp → Prop, (∀ H'', Same H' H'' → Rb (b x) H'') → tt ((wipe σ [i]).set i (some (f x))) H' Rb)
    (he : ∀ x ∈ as, b x = true → ∀ H', Same H1 H' → ∀ Rq : VK, (∀ y H'', Same H' H'' → R x y H'' → Rq y H'') → te ((wipe σ [i]).set i (some (f x))) H' Rq)
    (hd : ∀ ys H', Same H1 H' → H' D = some (.lst ys) → Paired (fun x y => R x y H') (as.filter b) ys → Qd H') :
    ∃ W : Nat → Nat → Hp → Prop, (∃ m, W 0 m (upd H1 D (.lst []))) ∧ ∀ i' m H, W i' m H →
      ((Itt K a).stop i' H ∧ Qd H) ∨ ((Itt K a).go i' H ∧ ∃ Nx : Hp → Prop, (∀ H', Nx H' → ∃ m', m' < m ∧ W (i' + 1) m' H') ∧ ∀ x H', (Itt K a).yld i' H x H' → gName i x (wipe σ [i]) H' fun σ2 H2 => wipe σ2 [i] = wipe σ [i] ∧ tt σ2 H2 fun b H3 =>
        if b = true then te σ2 H3 fun y H4 => ∃ acc, H4 D = some (.lst acc) ∧ acc.length < sizeLine ∧ Nx (upd H4 D (.lst (acc ++ [y]))) else Nx H3) := by
  obtain ⟨w1, w2⟩ := walkT (K := K) hT
  exact lc_any as f b R hR hD hlen (fun j x H e s => w1 j (f x) H (map_at e) s) (fun H s => by have := w2 H s; rw [List.length_map] at this; exact this) ht he hd
theorem lc_fmL (as : List α) (f : α → V) (b : α → Bool) (R : α → V → Hp → Prop) (hR : Stb R) (hT : H1 a = some (.lst (as.map f))) (hD : H1 D = none) (hlen : as.length ≤ 1000)
    (ht : ∀ x ∈ as, ∀ H', Same H1 H' → ∀ Rb : Bool → Hp → Prop, (∀ H'', Same H' H'' → Rb (b x) H'') → tt ((wipe σ [i]).set i (some (f x))) H' Rb)
    (he : ∀ x ∈ as, b x = true → ∀ H', Same H1 H' → ∀ Rq : VK, (∀ y H'', Same H' H'' → R x y H'' → Rq y H'') → te ((wipe σ [i]).set i (some (f x))) H' Rq)
    (hd : ∀ ys H', Same H1 H' → H' D = some (.lst ys) → Paired (fun x y => R x y H') (as.filter b) ys → Qd H') :
    ∃ W : Nat → Nat → Hp → Prop, (∃ m, W 0 m (upd H1 D (.lst []))) ∧ ∀ i' m H, W i' m H →
      ((Itl K a).stop i' H ∧ Qd H) ∨ ((Itl K a).go i' H ∧ ∃ Nx : Hp → Prop, (∀ H', Nx H' → ∃ m', m' < m ∧ W (i' + 1) m' H') ∧ ∀ x H', (Itl K a).yld i' H x H' → gName i x (wipe σ [i]) H' fun σ2 H2 => wipe σ2 [i] = wipe σ [i] ∧ tt σ2 H2 fun b H3 =>
        if b = true then te σ2 H3 fun y H4 => ∃ acc, H4 D = some (.lst acc) ∧ acc.length < sizeLine ∧ Nx (upd H4 D (.lst (acc ++ [y]))) else Nx H3) := by
  obtain ⟨w1, w2⟩ := walkL (K := K) hT
  exact lc_any as f b R hR hD hlen (fun j x H e s => w1 j (f x) H (map_at e) s) (fun H s => by have := w2 H s; rw [List.length_map] at this; exact this) ht he hd
/-- over range(lo, hi) -/
theorem lc_fmR (lo hi : Int) (b : Int → Bool) (R : Int → V → Hp → Prop) (hR : Stb R) (hD : H1 D = none) (hlen : (rng lo hi).length ≤ 1000)
    (ht : ∀ x ∈ rng lo hi, ∀ H', Same H1 H' → ∀ Rb : Bool → Hp → Prop, (∀ H'', Same H' H'' → Rb (b x) H'') → tt ((wipe σ [i]).set i (some (V.int x))) H' Rb)
    (he : ∀ x ∈ rng lo hi, b x = true → ∀ H', Same H1 H' → ∀ Rq : VK, (∀ y H'', Same H' H'' → R x y H'' → Rq y H'') → te ((wipe σ [i]).set i (some (V.int x))) H' Rq)
    (hd : ∀ ys H', Same H1 H' → H' D = some (.lst ys) → Paired (fun x y => R x y H') ((rng lo hi).filter b) ys → Qd H') :
    ∃ W : Nat → Nat → Hp → Prop, (∃ m, W 0 m (upd H1 D (.lst []))) ∧ ∀ i' m H, W i' m H →
      ((Itr lo (hi - lo).toNat).stop i' H ∧ Qd H) ∨ ((Itr lo (hi - lo).toNat).go i' H ∧ ∃ Nx : Hp → Prop, (∀ H', Nx H' → ∃ m', m' < m ∧ W (i' + 1) m' H') ∧ ∀ x H', (Itr lo (hi - lo).toNat).yld i' H x H' → gName i x (wipe σ [i]) H' fun σ2 H2 => wipe σ2 [i] = wipe σ [i] ∧ tt σ2 H2 fun b H3 =>
        if b = true then te σ2 H3 fun y H4 => ∃ acc, H4 D = some (.lst acc) ∧ acc.length < sizeLine ∧ Nx (upd H4 D (.lst (acc ++ [y]))) else Nx H3) := by
  refine lc_any (rng lo hi) V.int b R hR hD hlen (fun j x H e s => ?_) (fun H s => by show (hi - lo).toNat ≤ (rng lo hi).length; rw [len_rng]; exact Nat.le_refl _) ht he hd
  unfold rng at e
  rw [List.getElem?_map] at e
  cases q : (List.range (hi - lo).toNat)[j]? with
  | none => rw [q] at e; cases e
  | some z =>
    obtain ⟨h1, h2⟩ := List.getElem?_eq_some_iff.mp q
    rw [List.length_range] at h1
    rw [List.getElem_range] at h2
    rw [q] at e
    have e' : lo + (z : Int) = x := Option.some.inj e
    refine ⟨h1, fun v H' y => ⟨y.1, ?_⟩⟩
    rw [y.2, ← e', h2]
end
/-- y is the int f x -/
def IsIntR {α : Type} (f : α → Int) : α → V → Hp → Prop := fun x y _ => y = V.int (f x)
theorem stb_int {α : Type} (f : α → Int) : Stb (IsIntR f) := fun _ _ _ _ _ r => r
theorem paired_int {α : Type} {f : α → Int} : ∀ {as : List α} {ys : List V} {H : Hp}, Paired (fun x y => IsIntR f x y H) as ys → ys = (as.map f).map V.int
  | _, _, _, .nil => rfl
  | _, _, _, .cons r t => by
    have e := paired_int t
    show _ :: _ = _ :: _
    rw [e]
    have r' : _ = V.int _ := r
    rw [r']
/-- y is a tuple of ints -/
def IsLotR {α : Type} (f : α → List Int) : α → V → Hp → Prop := fun x y H => ∃ a, y = V.ref a ∧ TupI H a (f x)
theorem stb_lot {α : Type} (f : α → List Int) : Stb (IsLotR f) := fun _ _ _ _ h ⟨a, e, t⟩ => ⟨a, e, h _ _ t⟩
theorem paired_lot {α : Type} {f : α → List Int} : ∀ {as : List α} {ys : List V} {H : Hp}, Paired (fun x y => IsLotR f x y H) as ys → ∃ bs : List Addr, ys = bs.map V.ref ∧ Lots H bs (as.map f)
  | _, _, _, .nil => ⟨[], rfl, .nil⟩
  | _, _, _, .cons r t => by
    obtain ⟨bs, e, p⟩ := paired_lot t
    obtain ⟨a, e2, q⟩ := r
    exact ⟨a :: bs, by rw [e2, e]; rfl, .cons q p⟩
end Ws
end
section
set_option Elab.async false
set_option linter.all false
set_option maxRecDepth 100000
set_option maxHeartbeats 4000000
namespace Ws
open PySem PySem.Spec PyProof.Rows L2
set_option autoImplicit false
/-! K19: a comprehension with two fors: a list, then a range. -/
theorem flat_more {α β : Type} (g : α → List β) {as : List α} {j : Nat} {x : α} (e : as[j]? = some x) : (as.take (j + 1)).flatMap g = (as.take j).flatMap g ++ g x := by
  rw [List.take_add_one, e, List.flatMap_append]
  show _ ++ List.flatMap g [x] = _
  rw [List.flatMap_cons, List.flatMap_nil, List.append_nil]
theorem take_more1 {α : Type} {as : List α} {j : Nat} {x : α} (e : as[j]? = some x) : as.take (j + 1) = as.take j ++ [x] := by
  rw [List.take_add_one, e]
  rfl
theorem lc2_LR {α β : Type} {K : PySem.W.Frag} {a : Addr} {H1 : Hp} {D : Addr} {σ : L2.St} {i k : Nat} {wi1 : TI} {te : TE} {Qd : Hp → Prop} (as : List α) (f : α → V) (gx : α → List β) (lo : α → Int) (R : β → V → Hp → Prop) (hR : Stb R)
    (hT : H1 a = some (.lst (as.map f))) (hD : H1 D = none) (hlen : (as.flatMap gx).length ≤ 100000)
    (hin : ∀ x ∈ as, ∀ H', Same H1 H' → ∀ Rn : It → Hp → Prop, (∀ H'', Same H' H'' → Rn (Itr (lo x) (gx x).length) H'') → wi1 ((wipe σ [i, k]).set i (some (f x))) H' Rn)
    (he : ∀ x ∈ as, ∀ (q : Nat) y', (gx x)[q]? = some y' → ∀ H', Same H1 H' → ∀ Rq : VK, (∀ y H'', Same H' H'' → R y' y H'' → Rq y H'') → te ((wipe ((wipe σ [i, k]).set i (some (f x))) [k]).set k (some (.int (lo x + (q : Int))))) H' Rq)
    (hw : ∀ v, wipe ((wipe σ [i, k]).set i (some v)) [i, k] = wipe σ [i, k])
    (hd : ∀ ys H', Same H1 H' → H' D = some (.lst ys) → Paired (fun x y => R x y H') (as.flatMap gx) ys → Qd H') :
    ∃ W : Nat → Nat → Hp → Prop, (∃ m, W 0 m (upd H1 D (.lst []))) ∧ ∀ i' m H, W i' m H →
      ((Itl K a).stop i' H ∧ Qd H) ∨ ((Itl K a).go i' H ∧ ∃ Nx : Hp → Prop, (∀ H', Nx H' → ∃ m', m' < m ∧ W (i' + 1) m' H') ∧ ∀ x H', (Itl K a).yld i' H x H' → gName i x (wipe σ [i, k]) H' fun σ2 H2 => wipe σ2 [i, k] = wipe σ [i, k] ∧ tYes σ2 H2 fun b H3 =>
        if b = true then wi1 σ2 H3 fun J1 H4 => ∃ W1 : Nat → Nat → Hp → Prop, (∃ m, W1 0 m H4) ∧ ∀ j k' H, W1 j k' H →
          (J1.stop j H ∧ Nx H) ∨ (J1.go j H ∧ ∃ Nx1 : Hp → Prop, (∀ H', Nx1 H' → ∃ k'', k'' < k' ∧ W1 (j + 1) k'' H') ∧ ∀ x H', J1.yld j H x H' → gName k x (wipe σ2 [k]) H' fun σ3 H5 => wipe σ3 [k] = wipe σ2 [k] ∧ tYes σ3 H5 fun b H6 =>
            if b = true then te σ3 H6 fun y H7 => ∃ acc, H7 D = some (.lst acc) ∧ acc.length < sizeLine ∧ Nx1 (upd H7 D (.lst (acc ++ [y]))) else Nx1 H6)
        else Nx H3) := by
  obtain ⟨w1, w2⟩ := walkL (K := K) hT
  let Pv : Nat → Hp → Prop := fun j H => Same H1 H ∧ ∃ ys, H D = some (.lst ys) ∧ Paired (fun x y => R x y H) ((as.take j).flatMap gx) ys
  refine ⟨fun j m H => m = as.length - j ∧ j ≤ as.length ∧ Pv j H, ⟨as.length, by simp, Nat.zero_le _, Same.chg (Same.refl _) hD, [], upd_same, .nil⟩, ?_⟩
  rintro j m H ⟨rfl, hj, s, ys, hDy, pp⟩
  by_cases hlt : j < as.length
  · obtain ⟨x, hx⟩ : ∃ x, as[j]? = some x := ⟨as[j], by simp [hlt]⟩
    have hm := List.mem_of_getElem? hx
    obtain ⟨g1, g2⟩ := w1 j (f x) H (map_at hx) s
    have hmore := flat_more gx hx
    refine .inr ⟨g1, Pv (j + 1), fun H' p' => ⟨as.length - (j + 1), by omega, rfl, hlt, p'⟩, fun v H' y => ?_⟩
    obtain ⟨rfl, rfl⟩ := g2 v H' y
    refine ⟨hw _, ?_⟩
    dsimp only [tYes]
    rw [if_pos rfl]
    refine hin x hm H' s _ fun H2 s2 => ?_
    let Pq : Nat → Hp → Prop := fun q H => Same H1 H ∧ ∃ ys, H D = some (.lst ys) ∧ Paired (fun x y => R x y H) ((as.take j).flatMap gx ++ (gx x).take q) ys
    refine ⟨fun q k' H => k' = (gx x).length - q ∧ q ≤ (gx x).length ∧ Pq q H, ⟨(gx x).length, by simp, Nat.zero_le _, s.trans s2, ys, s2 _ _ hDy, by rw [List.take_zero, List.append_nil]; exact hR.same s2 pp⟩, ?_⟩
    rintro q k' H3 ⟨rfl, hq, s3, zs, hDz, pz⟩
    by_cases hql : q < (gx x).length
    · obtain ⟨y', hy'⟩ : ∃ y', (gx x)[q]? = some y' := ⟨(gx x)[q], by simp [hql]⟩
      refine .inr ⟨hql, Pq (q + 1), fun H' p' => ⟨(gx x).length - (q + 1), by omega, rfl, hql, p'⟩, fun v H' y => ?_⟩
      obtain ⟨rfl, rfl⟩ := y
      refine ⟨?eq, ?_⟩
      case eq =>
        show (((((wipe σ [i, k]).set i (some (f x))).set k none).set k (some (V.int (lo x + (q : Int))))).set k none) = (((wipe σ [i, k]).set i (some (f x))).set k none)
        rw [List.set_set, List.set_set]
      rw [if_pos rfl]
      refine he x hm q y' hy' H' s3 _ fun y H4 s4 r => ⟨zs, s4 _ _ hDz, ?_, Same.chg (s3.trans s4) hD, zs ++ [y], upd_same, ?_⟩
      · have l1 := Paired.len' pz
        rw [List.length_append, List.length_take] at l1
        have l3 : ((as.take (j + 1)).flatMap gx).length ≤ (as.flatMap gx).length := by
          conv => rhs; rw [← List.take_append_drop (j + 1) as, List.flatMap_append, List.length_append]
          exact Nat.le_add_right _ _
        rw [hmore, List.length_append] at l3
        exact small_lt (by omega)
      · have st : ∀ t us, H4 t = some (.tup us) → (upd H4 D (.lst (zs ++ [y]))) t = some (.tup us) := fun t us e => by
          rw [upd_ne (ne_of e (s4 _ _ hDz) (by intro q; cases q))]
          exact e
        rw [take_more1 hy', ← List.append_assoc]
        refine Paired.app ?_ (hR _ _ _ _ st r)
        exact Paired.map' (hR.same s4 pz) fun a y' r' => hR _ _ _ _ st r'
    · have e : q = (gx x).length := by omega
      subst e
      rw [List.take_length, ← hmore] at pz
      exact .inl ⟨Nat.le_refl _, s3, zs, hDz, pz⟩
  · have e : j = as.length := by omega
    subst e
    rw [List.take_length] at pp
    have st := w2 H s
    rw [List.length_map] at st
    exact .inl ⟨st, hd ys H s hDy pp⟩
end Ws
end
section
set_option Elab.async false
set_option linter.all false
set_option maxRecDepth 100000
set_option maxHeartbeats 4000000
namespace Ws
open PySem PySem.Spec PyProof.Rows L2
set_option autoImplicit false
section
variable {P : Program} {w : World} {K : PySem.W.Frag} {mg : Str → Option Value} {base : Heap} {c : Cs} {f1 f2 f3 f4 : Addr} {t9 t6 : Tok}
theorem ok_is_integer (T : Txt P K mg c.CB c.CL c.C1 c.C2 c.C3 c.C4 f1 f2 f3 f4 t9 t6)  {f : Addr} {fd : FuncData} (F : Fun K "is_integer" "is_integer" s_is_integer f fd) : FnOk P w K mg base CX0 1 f fd ["value"] (sp_is_integer c) := by
  refine F.ok sc_is_integer (fun vs H Q E h => ?_) (fun cdv A outer s H vs Q E hr h => ?_)
  · obtain ⟨v, rfl, kd, k⟩ := h
    rfl
  · obtain ⟨v, rfl, kd, k⟩ := h
    obtain ⟨t, ty, e1, e2, _⟩ := kd_ty (K := K) kd
    refine ⟨_, (pss_one (ps_ret (pe_and (pe_callB call_isi (by rfl) T.g_isinstance (by decide +kernel) (pa_cons (pv 0) (pa_cons (pe_bltn (v := .ty "int") (by rfl) T.g_int (by decide +kernel) rfl) pa_nil))) (pe_one (pe_not (pe_callB call_isi (by rfl) T.g_isinstance (by decide +kernel) (pa_cons (pv 0) (pa_cons (pe_bltn (v := .ty "bool") (by rfl) T.g_bool (by decide +kernel) rfl) pa_nil)))))))), ?_⟩
    refine ⟨_, rfl, _, _, _, _, _, rfl, .ty _, ty, e1, _, rfl, ?_⟩
    cases v with
    | int i => exact iteT ⟨_, rfl, _, _, _, _, _, rfl, .ty _, ty, e2, _, rfl, k⟩
    | bl b => exact iteT ⟨_, rfl, _, _, _, _, _, rfl, .ty _, ty, e2, _, rfl, k⟩
    | non => exact iteF k
    | str x => exact iteF k
    | ref a => exact iteF k
    | byt _ => exact kd.elim
    | flt _ => exact kd.elim
    | ty _ => exact kd.elim
theorem ok_is_number (T : Txt P K mg c.CB c.CL c.C1 c.C2 c.C3 c.C4 f1 f2 f3 f4 t9 t6) (d_is_integer : Dn P w K mg base CX0 1 "is_integer" ["value"] (sp_is_integer c)) {f : Addr} {fd : FuncData} (F : Fun K "is_number" "is_number" s_is_number f fd) : FnOk P w K mg base CX0 2 f fd ["value"] (sp_is_number c) := by
  refine F.ok sc_is_number (fun vs H Q E h => ?_) (fun cdv A outer s H vs Q E hr h => ?_)
  · obtain ⟨v, rfl, kd, k⟩ := h
    rfl
  · obtain ⟨v, rfl, kd, k⟩ := h
    refine ⟨_, (pss_one (ps_ret (pe_and (pe_dn d_is_integer (hr.mono (by decide)) pA0 (pa_cons (pv 0) pa_nil)) (pe_one (pe_cmpR op_ge (pv 0) pe_int (nomark _)))))), ?_⟩
    refine ⟨_, rfl, v, rfl, kd, _, rfl, ?_⟩
    cases v with
    | int i => exact iteT ⟨_, rfl, _, _, rfl, rfl, k⟩
    | bl b => exact iteF k
    | non => exact iteF k
    | str x => exact iteF k
    | ref a => exact iteF k
    | byt _ => exact kd.elim
    | flt _ => exact kd.elim
    | ty _ => exact kd.elim
theorem ok_is_below (T : Txt P K mg c.CB c.CL c.C1 c.C2 c.C3 c.C4 f1 f2 f3 f4 t9 t6) (d_is_number : Dn P w K mg base CX0 2 "is_number" ["value"] (sp_is_number c)) {f : Addr} {fd : FuncData} (F : Fun K "is_below" "is_below" s_is_below f fd) : FnOk P w K mg base CX0 3 f fd ["value", "many"] (sp_is_below c) := by
  refine F.ok sc_is_below (fun vs H Q E h => ?_) (fun cdv A outer s H vs Q E hr h => ?_)
  · obtain ⟨v, m, rfl, kd, k⟩ := h
    rfl
  · obtain ⟨v, m, rfl, kd, k⟩ := h
    refine ⟨_, (pss_one (ps_ret (pe_and (pe_dn d_is_number (hr.mono (by decide)) pA0 (pa_cons (pv 0) pa_nil)) (pe_one (pe_cmpR op_lt (pv 0) (pv 1) (nomark _)))))), ?_⟩
    refine ⟨_, rfl, v, rfl, kd, _, rfl, ?_⟩
    cases v with
    | int i =>
      refine ite2 (fun e => ?_) (fun e => ?_)
      · refine ⟨_, rfl, _, rfl, _, _, rfl, rfl, ?_⟩
        have e' : isB m (.int i) = decide (i < m) := by show (decide (0 ≤ i) && decide (i < m)) = _; rw [show decide (0 ≤ i) = true from e]; rfl
        rw [e'] at k; exact k
      · have e' : isB m (.int i) = false := by show (decide (0 ≤ i) && decide (i < m)) = _; rw [show decide (0 ≤ i) = false from Bool.eq_false_iff.mpr e]; rfl
        have e2 : isN (.int i) = false := Bool.eq_false_iff.mpr e
        rw [e'] at k; exact k
    | bl b => exact iteF k
    | non => exact iteF k
    | str x => exact iteF k
    | ref a => exact iteF k
    | byt _ => exact kd.elim
    | flt _ => exact kd.elim
    | ty _ => exact kd.elim
theorem ok_is_sequence (T : Txt P K mg c.CB c.CL c.C1 c.C2 c.C3 c.C4 f1 f2 f3 f4 t9 t6)  {f : Addr} {fd : FuncData} (F : Fun K "is_sequence" "is_sequence" s_is_sequence f fd) : FnOk P w K mg base CX0 1 f fd ["value"] (sp_is_sequence c) := by
  refine F.ok sc_is_sequence (fun vs H Q E h => ?_) (fun cdv A outer s H vs Q E hr h => ?_)
  · obtain ⟨v, rfl, kd, k⟩ := h
    rfl
  · obtain ⟨v, rfl, kd, k⟩ := h
    obtain ⟨t, ty, _, _, e3⟩ := kd_ty (K := K) kd
    refine ⟨_, (pss_one (ps_ret (pe_callB call_isiT (by rfl) T.g_isinstance (by decide +kernel) (pa_cons (pv 0) (pa_cons (pe_tup (pa_cons (pe_bltn (v := .ty "list") (by rfl) T.g_list (by decide +kernel) rfl) (pa_cons (pe_bltn (v := .ty "tuple") (by rfl) T.g_tuple (by decide +kernel) rfl) pa_nil))) pa_nil))))), ?_⟩
    refine ⟨_, rfl, (by show 2 ≤ sizeLine; decide), fun p hp => ?_⟩
    have s1 := Same.new (o := .tup [V.ty "list", V.ty "tuple"]) hp
    obtain ⟨t, ty, _, _, e3⟩ := kd_ty (K := K) (kd.same s1)
    exact ⟨_, _, _, _, _, _, rfl, upd_same, .cons (.ty _) (.cons (.ty _) .nil), ty, e3, k _ s1⟩
theorem ok_need_sizes (T : Txt P K mg c.CB c.CL c.C1 c.C2 c.C3 c.C4 f1 f2 f3 f4 t9 t6) (d_is_number : Dn P w K mg base CX0 2 "is_number" ["value"] (sp_is_number c)) {f : Addr} {fd : FuncData} (F : Fun K "need_sizes" "need_sizes" s_need_sizes f fd) : FnOk P w K mg base CX0 3 f fd ["many", "places"] (sp_need_sizes c) := by
  refine F.ok sc_need_sizes (fun vs H Q E h => ?_) (fun cdv A outer s H vs Q E hr h => ?_)
  · obtain ⟨m, n, rfl, h1, h2, h3, h4, k⟩ := h
    rfl
  · obtain ⟨m, n, rfl, h1, h2, h3, h4, k⟩ := h
    refine ⟨_, (pss_cons (ps_if (PW.pt (pw_or (pt_not (pt_val (pe_dn d_is_number (hr.mono (by decide)) pA0 (pa_cons (pv 0) pa_nil)))) (pw_or1 (pt_not (pt_chain op_le op_le pe_int (pv 0) (pe_glob (v := .int 9) rfl T.m_MOST_THINGS ⟨_, rfl⟩))))))
    (pss_one ps_never)
    pss_nil)
    (pss_one (ps_if (PW.pt (pw_or (pt_not (pt_val (pe_dn d_is_number (hr.mono (by decide)) pA0 (pa_cons (pv 1) pa_nil)))) (pw_or1 (pt_not (pt_chain op_le op_lt pe_int (pv 1) (pv 0))))))
    (pss_one ps_never)
    pss_nil))), ?_⟩
    refine ⟨_, rfl, _, rfl, trivial, _, rfl, ?_⟩
    have e1 : isN (.int m) = true := decide_eq_true (by omega)
    rw [e1]
    refine iteF ⟨_, rfl, _, _, rfl, rfl, _, rfl, ?_⟩
    rw [show decide ((2 : Int) ≤ m) = true from decide_eq_true (by omega)]
    refine iteT ⟨_, _, rfl, rfl, _, rfl, ?_⟩
    rw [show decide (m ≤ (9 : Int)) = true from decide_eq_true (by omega)]
    refine iteF ?_
    refine ⟨_, rfl, _, rfl, trivial, _, rfl, ?_⟩
    have e2 : isN (.int n) = true := decide_eq_true (by omega)
    rw [e2]
    refine iteF ⟨_, rfl, _, _, rfl, rfl, _, rfl, ?_⟩
    rw [show decide ((1 : Int) ≤ n) = true from decide_eq_true (by omega)]
    refine iteT ⟨_, rfl, _, _, rfl, rfl, _, rfl, ?_⟩
    rw [show decide (n < m) = true from decide_eq_true (by omega)]
    exact iteF k
end
end Ws
end
section
set_option Elab.async false
set_option linter.all false
set_option maxRecDepth 100000
set_option maxHeartbeats 4000000
namespace Ws
open PySem PySem.Spec PyProof.Rows L2
set_option autoImplicit false
theorem decV (x y : Int) : decide (V.int x = V.int y) = decide (x = y) := by
  rw [Bool.eq_iff_iff]
  simp
theorem less_is (s : List Int) (x : Int) : (s.filter fun y => !decide (V.int y = V.int x)) = less s x := by
  unfold less
  congr 1
  funext y
  rw [decV]
theorem map_id_int (s : List Int) : (s.map id).map V.int = s.map V.int := by rw [List.map_id]
section
variable {P : Program} {w : World} {K : PySem.W.Frag} {mg : Str → Option Value} {base : Heap} {c : Cs} {f1 f2 f3 f4 : Addr} {t9 t6 : Tok}
theorem ok_without (T : Txt P K mg c.CB c.CL c.C1 c.C2 c.C3 c.C4 f1 f2 f3 f4 t9 t6)  {f : Addr} {fd : FuncData} (F : Fun K "without" "without" s_without f fd) : FnOk P w K mg base CX0 1 f fd ["lot", "thing"] (sp_without c) := by
  refine F.ok sc_without (fun vs H Q E h => ?_) (fun cdv A outer s H vs Q E hr h => ?_)
  · obtain ⟨a, s, x, rfl, hT, hlen, k⟩ := h
    rfl
  · obtain ⟨a, s, x, rfl, hT, hlen, k⟩ := h
    refine ⟨_, (pss_one (ps_ret (pe_callTy (call_tupleA (K := K) rfl) (by rfl) T.g_tuple (by decide +kernel) (pa_cons (pe_lc (own := [("one", 2)]) (g := (gName 2)) rfl sc_without.nd (pi_tupK (K := K) rfl (pv 0)) (blkOk_by (N := ["lot", "thing", "one"]) (sc := defScope s_without) (by decide +kernel)) (fun _ _ _ _ _ => (pg_name (i := 2) sc_without.nd rfl (Or.inl rfl))) (fun _ _ _ _ _ => (pts_one (pt_cmpR op_ne (pv 2) (pv 1) (nomark _)))) (fun _ _ _ _ _ => (pv 2))) pa_nil)))), ?_⟩
    refine ⟨_, rfl, a, rfl, ⟨_, SqT.of hT⟩, fun D hD => lc_fmT s V.int (fun y => !decide (V.int y = V.int x)) (IsIntR id) (stb_int _) hT hD hlen (fun y hy H' s' Rb kb => ?_) (fun y hy _ H' s' Rq kq => ?_) fun ys H' s' hys pp => ?_⟩
    · exact ⟨_, rfl, _, rfl, rfl, _, rfl, kb _ (Same.refl _)⟩
    · exact ⟨_, rfl, kq _ _ (Same.refl _) rfl⟩
    · rw [paired_int pp, map_id_int, less_is] at hys
      exact ⟨_, _, rfl, .inl ⟨SqL.of hys, fun l hl => k l _ (Same.put s' hl) upd_same⟩⟩
theorem ok__law_less (T : Txt P K mg c.CB c.CL c.C1 c.C2 c.C3 c.C4 f1 f2 f3 f4 t9 t6)  {f : Addr} {fd : FuncData} (F : Fun K "_law_less" "_law_less" s__law_less f fd) : FnOk P w K mg base CX0 1 f fd ["_law_lot", "_law_thing"] (sp__law_less c) := by
  refine F.ok sc__law_less (fun vs H Q E h => ?_) (fun cdv A outer s H vs Q E hr h => ?_)
  · obtain ⟨a, s, x, rfl, hT, hlen, k⟩ := h
    rfl
  · obtain ⟨a, s, x, rfl, hT, hlen, k⟩ := h
    refine ⟨_, (pss_one (ps_ret (pe_callTy (call_tupleA (K := K) rfl) (by rfl) T.g_tuple (by decide +kernel) (pa_cons (pe_lc (own := [("_law_one", 2)]) (g := (gName 2)) rfl sc__law_less.nd (pi_tupK (K := K) rfl (pv 0)) (blkOk_by (N := ["_law_lot", "_law_thing", "_law_one"]) (sc := defScope s__law_less) (by decide +kernel)) (fun _ _ _ _ _ => (pg_name (i := 2) sc__law_less.nd rfl (Or.inl rfl))) (fun _ _ _ _ _ => (pts_one (pt_cmpR op_ne (pv 2) (pv 1) (nomark _)))) (fun _ _ _ _ _ => (pv 2))) pa_nil)))), ?_⟩
    refine ⟨_, rfl, a, rfl, ⟨_, SqT.of hT⟩, fun D hD => lc_fmT s V.int (fun y => !decide (V.int y = V.int x)) (IsIntR id) (stb_int _) hT hD hlen (fun y hy H' s' Rb kb => ?_) (fun y hy _ H' s' Rq kq => ?_) fun ys H' s' hys pp => ?_⟩
    · exact ⟨_, rfl, _, rfl, rfl, _, rfl, kb _ (Same.refl _)⟩
    · exact ⟨_, rfl, kq _ _ (Same.refl _) rfl⟩
    · rw [paired_int pp, map_id_int, less_is] at hys
      exact ⟨_, _, rfl, .inl ⟨SqL.of hys, fun l hl => k l _ (Same.put s' hl) upd_same⟩⟩
theorem ok_need_book (T : Txt P K mg c.CB c.CL c.C1 c.C2 c.C3 c.C4 f1 f2 f3 f4 t9 t6)  {f : Addr} {fd : FuncData} (F : Fun K "need_book" "need_book" s_need_book f fd) : FnOk P w K mg base CX0 1 f fd ["value"] (sp_need_book c) := by
  refine F.ok sc_need_book (fun vs H Q E h => ?_) (fun cdv A outer s H vs Q E hr h => ?_)
  · obtain ⟨b, dx, fs, rfl, hb, k⟩ := h
    rfl
  · obtain ⟨b, dx, fs, rfl, hb, k⟩ := h
    refine ⟨_, (pss_cons (ps_if (pt_not (pt_val (pe_callB call_isi (by rfl) T.g_isinstance (by decide +kernel) (pa_cons (pv 0) (pa_cons (pe_glob (v := .ref c.CB) rfl T.m_Book rfl) pa_nil)))))
    (pss_one ps_never)
    pss_nil)
    (pss_one (ps_ret (pv 0)))), ?_⟩
    refine ⟨_, rfl, _, _, _, _, _, rfl, .own _, .base (.ins hb T.clB T.bA T.bN T.bT T.bM), (if_pos (by simp) : PySem.W.kitOne K (.ref c.CB) (.ref c.CB) = some true), _, rfl, ?_⟩
    exact iteF ⟨_, rfl, k⟩
end
end Ws
end
section
set_option Elab.async false
set_option linter.all false
set_option maxRecDepth 100000
set_option maxHeartbeats 4000000
namespace Ws
open PySem PySem.Spec PyProof.Rows L2
set_option autoImplicit false
/-! K22: small readings. -/
theorem lots_zip {H : Hp} : ∀ {as : List Addr} {ss : List (List Int)}, Lots H as ss → ∃ ps : List (Addr × List Int), as = ps.map (·.1) ∧ ss = ps.map (·.2) ∧ ∀ p ∈ ps, TupI H p.1 p.2
  | _, _, .nil => ⟨[], rfl, rfl, fun _ h => by cases h⟩
  | a :: as, s :: ss, .cons r t => by
    obtain ⟨ps, e1, e2, h⟩ := lots_zip t
    refine ⟨(a, s) :: ps, by rw [e1]; rfl, by rw [e2]; rfl, fun p hp => ?_⟩
    rcases List.mem_cons.mp hp with e | hp
    · rw [e]; exact r
    · exact h p hp
section
variable {K : PySem.W.Frag} {H : Hp} {Q : VK}
theorem cat_read {a b : Addr} {s t : List Int} (ha : TupI H a s) (hb : TupI H b t) (hl : s.length + t.length ≤ 1000) (k : ∀ r H', Same H H' → TupI H' r (s ++ t) → Q (.ref r) H') : rCatA K (.ref a) (.ref b) H Q := by
  refine ⟨a, b, _, _, rfl, rfl, SqT.of ha, SqT.of hb, ?_, fun e => ?_, fun _ e => ?_, fun _ _ p hp => ?_⟩
  · rw [List.length_map, List.length_map]; exact small_k (by omega)
  · have e' : s = [] := List.map_eq_nil_iff.mp e
    refine k b H (Same.refl H) ?_
    rw [e']; exact hb
  · have e' : t = [] := List.map_eq_nil_iff.mp e
    refine k a H (Same.refl H) ?_
    rw [e', List.append_nil]; exact ha
  · refine k p _ (Same.new hp) ?_
    show upd H p _ p = _
    rw [upd_same, List.map_append]
/-- sorted of a tuple of ints, made a tuple -/
theorem sorted_tup_read {a : Addr} {s : List Int} (ha : TupI H a s) (k : ∀ s' r H', s'.Perm s → s'.Pairwise (· ≤ ·) → Same H H' → TupI H' r s' → Q (.ref r) H') : rSortedTI K [.ref a] H fun x H1 => rTupOf K [x] H1 Q := by
  refine ⟨a, s, rfl, SqT.of ha, fun ns p hp hs hn => ⟨p, _, rfl, .inl ⟨SqL.of upd_same, fun l hl => k ns l _ hp hs (Same.put (Same.new hn) hl) upd_same⟩⟩⟩
theorem dget_read {d b : Addr} {m : Int} {k : Nat} {g : List Int → Int} {s : List Int} (h : TabAt H d m k g) (hs : LotOk m s) (hl : s.length = k + 1) (hb : TupI H b s) (q : Q (.int (g s)) H) : ∃ a v, V.ref d = .ref a ∧ DGet H a (.ref b) (some v) ∧ Q v H := ⟨d, _, rfl, h.get hs hl hb, q⟩
end
theorem inV_int (x : Int) : ∀ s : List Int, inV (.int x) (s.map V.int) = decide (x ∈ s)
  | [] => rfl
  | y :: r => by
    have ih := inV_int x r
    unfold inV at ih ⊢
    rw [List.map_cons, List.any_cons, ih]
    show (eqV (.int y) (.int x) || _) = _
    have e : eqV (.int y) (.int x) = decide (y = x) := by
      show (y == x) = decide (y = x)
      rfl
    rw [e]
    by_cases h : y = x
    · subst h; simp
    · have : (x ∈ y :: r) ↔ x ∈ r := by rw [List.mem_cons]; exact ⟨fun q => q.resolve_left fun e => h e.symm, .inr⟩
      rw [decide_eq_false h, Bool.false_or]
      exact Bool.eq_iff_iff.mpr (by rw [decide_eq_true_iff, decide_eq_true_iff, this])
theorem flat_ints (s : List Int) : (s.map V.int).all flatV = true := by
  rw [List.all_eq_true]
  intro v hv
  obtain ⟨x, _, rfl⟩ := List.mem_map.mp hv
  rfl
end Ws
end
section
set_option Elab.async false
set_option linter.all false
set_option maxRecDepth 100000
set_option maxHeartbeats 4000000
namespace Ws
open PySem PySem.Spec PyProof.Rows L2
set_option autoImplicit false
/-! K24: tuples of ints, lists and tuples of them, as data. -/
def intsD (s : List Int) : List PyData := s.map PyData.int
def lotD (s : List Int) : PyData := .tuple (intsD s)
def lotsD (ss : List (List Int)) : List PyData := ss.map lotD
section
variable {K : PySem.W.Frag} {H : Hp}
theorem dp_ints : ∀ s : List Int, DpAll K H (s.map V.int) (intsD s)
  | [] => .nil
  | _ :: r => .cons (.int _) (dp_ints r)
theorem dp_lot {a : Addr} {s : List Int} (h : TupI H a s) : Dp K H (.ref a) (lotD s) := .tup (SqT.of h) (dp_ints s)
theorem dp_listI {a : Addr} {s : List Int} (h : ListI H a s) : Dp K H (.ref a) (.list (intsD s)) := .lst (SqL.of h) (dp_ints s)
theorem dp_lots : ∀ {as : List Addr} {ss : List (List Int)}, Lots H as ss → DpAll K H (as.map V.ref) (lotsD ss)
  | _, _, .nil => .nil
  | _, _, .cons r t => .cons (dp_lot r) (dp_lots t)
theorem dp_lotL {l : Addr} {ss : List (List Int)} (h : LotL H l ss) : Dp K H (.ref l) (.list (lotsD ss)) := by
  obtain ⟨as, e, p⟩ := h
  exact .lst (SqL.of e) (dp_lots p)
theorem dp_lotT {l : Addr} {ss : List (List Int)} (h : LotT H l ss) : Dp K H (.ref l) (.tuple (lotsD ss)) := by
  obtain ⟨as, e, p⟩ := h
  exact .tup (SqT.of e) (dp_lots p)
end
theorem can_ints : ∀ s : List Int, PyData.canLayAll0 (intsD s) = true
  | [] => rfl
  | _ :: r => by show (true && PyData.canLayAll0 (intsD r)) = true; rw [can_ints r]; rfl
theorem can_lots : ∀ ss : List (List Int), PyData.canLayAll0 (lotsD ss) = true
  | [] => rfl
  | s :: r => by show (PyData.canLayAll0 (intsD s) && PyData.canLayAll0 (lotsD r)) = true; rw [can_lots r, can_ints s]; rfl
theorem dep_ints : ∀ s : List Int, PyData.depthAll (intsD s) ≤ 1
  | [] => by decide
  | x :: r => by
    have ih := dep_ints r
    have e : PyData.depthAll (intsD (x :: r)) = max (PyData.depth (.int x)) (PyData.depthAll (intsD r)) := by
      show PyData.depthAll (PyData.int x :: intsD r) = _
      rw [PyData.depthAll]
    have d : PyData.depth (.int x) ≤ 1 := by rw [PyData.depth]; all_goals decide
    rw [e]; omega
theorem dep_lot (s : List Int) : PyData.depth (lotD s) ≤ 2 := by
  have := dep_ints s
  have e : PyData.depth (lotD s) = PyData.depthAll (intsD s) + 1 := by unfold lotD; rw [PyData.depth]
  omega
theorem dep_lots : ∀ ss : List (List Int), PyData.depthAll (lotsD ss) ≤ 2
  | [] => by decide
  | x :: r => by
    have ih := dep_lots r
    have e : PyData.depthAll (lotsD (x :: r)) = max (PyData.depth (lotD x)) (PyData.depthAll (lotsD r)) := by
      show PyData.depthAll (lotD x :: lotsD r) = _
      rw [PyData.depthAll]
    have := dep_lot x
    rw [e]; omega
theorem sh_lot (s : List Int) : SeqAt.shaped (lotD s) = true := by
  have := dep_lot s
  unfold SeqAt.shaped
  rw [show (lotD s).canLay0 = true from can_ints s, decide_eq_true (by omega)]
  rfl
theorem sh_listI (s : List Int) : SeqAt.shaped (.list (intsD s)) = true := by
  have := dep_ints s
  have e : PyData.depth (.list (intsD s)) = PyData.depthAll (intsD s) + 1 := by rw [PyData.depth]
  unfold SeqAt.shaped
  rw [show (PyData.list (intsD s)).canLay0 = true from can_ints s, decide_eq_true (by omega)]
  rfl
theorem sh_lotL (ss : List (List Int)) : SeqAt.shaped (.list (lotsD ss)) = true := by
  have := dep_lots ss
  have e : PyData.depth (.list (lotsD ss)) = PyData.depthAll (lotsD ss) + 1 := by rw [PyData.depth]
  unfold SeqAt.shaped
  rw [show (PyData.list (lotsD ss)).canLay0 = true from can_lots ss, decide_eq_true (by omega)]
  rfl
theorem sh_lotT (ss : List (List Int)) : SeqAt.shaped (.tuple (lotsD ss)) = true := by
  have := dep_lots ss
  have e : PyData.depth (.tuple (lotsD ss)) = PyData.depthAll (lotsD ss) + 1 := by rw [PyData.depth]
  unfold SeqAt.shaped
  rw [show (PyData.tuple (lotsD ss)).canLay0 = true from can_lots ss, decide_eq_true (by omega)]
  rfl
theorem eqv_ints : ∀ s t : List Int, PyData.eqvAll (intsD s) (intsD t) = decide (s = t)
  | [], [] => by simp [intsD, PyData.eqvAll]
  | [], _ :: _ => by simp [intsD, PyData.eqvAll]
  | _ :: _, [] => by simp [intsD, PyData.eqvAll]
  | x :: s, y :: t => by
    have ih := eqv_ints s t
    have e : PyData.eqvAll (intsD (x :: s)) (intsD (y :: t)) = ((x == y) && PyData.eqvAll (intsD s) (intsD t)) := by
      show PyData.eqvAll (PyData.int x :: intsD s) (PyData.int y :: intsD t) = _
      rw [PyData.eqvAll, PyData.eqv]
    rw [e, ih, Bool.eq_iff_iff]
    simp
theorem eqv_lot (s t : List Int) : PyData.eqv (lotD s) (lotD t) = decide (s = t) := by
  unfold lotD
  rw [PyData.eqv]
  exact eqv_ints s t
theorem eqv_list (s t : List Int) : PyData.eqv (.list (intsD s)) (.list (intsD t)) = decide (s = t) := by
  rw [PyData.eqv]
  exact eqv_ints s t
theorem eqv_self (d : PyData) (h : SeqAt.shaped d = true) : PyData.eqv d d = true := SeqAt.eqv_refl d (SeqAt.canLay_of_shaped h)
theorem any_lots (s : List Int) : ∀ ss : List (List Int), ((lotsD ss).any fun z => PyData.eqv z (lotD s)) = decide (s ∈ ss)
  | [] => rfl
  | t :: ss => by
    have ih := any_lots s ss
    show (PyData.eqv (lotD t) (lotD s) || (lotsD ss).any _) = _
    rw [ih, eqv_lot, Bool.eq_iff_iff]
    simp
    constructor
    · rintro (h | h)
      · exact .inl h.symm
      · exact .inr h
    · rintro (h | h)
      · exact .inl h.symm
      · exact .inr h
end Ws
end
section
set_option Elab.async false
set_option linter.all false
set_option maxRecDepth 100000
set_option maxHeartbeats 4000000
namespace Ws
open PySem PySem.Spec PyProof.Rows L2
set_option autoImplicit false
theorem fst_map {α β : Type} (ps : List (α × β)) (f : α → V) : (ps.map (·.1)).map f = ps.map fun p => f p.1 := by rw [List.map_map]; rfl
theorem rows_mono_len {m : Int} {k j : Nat} (h0 : 0 ≤ m) (hm : m ≤ 6) (hk : k ≤ 5) : ((rows m k).take j).length ≤ 1000 := by
  have := (rows_small h0 hm hk).1
  rw [List.length_take]; omega
section
variable {P : Program} {w : World} {K : PySem.W.Frag} {mg : Str → Option Value} {base : Heap} {c : Cs} {f1 f2 f3 f4 : Addr} {t9 t6 : Tok}
/-- where a row's next thing begins -/
theorem ext_len (m : Int) (r : List Int) : (ext m r).length = (m - nxt r).toNat := by unfold ext; rw [List.length_map, len_rng]
theorem ext_at {m : Int} {r : List Int} {q : Nat} {y : List Int} (h : (ext m r)[q]? = some y) : y = r ++ [nxt r + (q : Int)] := by
  unfold ext rng at h
  rw [List.getElem?_map, List.getElem?_map] at h
  cases e : (List.range (m - nxt r).toNat)[q]? with
  | none => rw [e] at h; cases h
  | some z =>
    obtain ⟨h1, h2⟩ := List.getElem?_eq_some_iff.mp e
    rw [List.getElem_range] at h2
    rw [e] at h
    have := Option.some.inj h
    rw [← this, ← h2]
theorem ok_rising_rows (T : Txt P K mg c.CB c.CL c.C1 c.C2 c.C3 c.C4 f1 f2 f3 f4 t9 t6)  {f : Addr} {fd : FuncData} (F : Fun K "rising_rows" "rising_rows" s_rising_rows f fd) : FnOk P w K mg base CX0 1 f fd ["many", "size"] (sp_rising_rows c) := by
  refine F.ok sc_rising_rows (fun vs H Q E h => ?_) (fun cdv A outer s H vs Q E hr h => ?_)
  · obtain ⟨m, n, rfl, h0, h6, h5, k⟩ := h
    rfl
  · obtain ⟨m, n, rfl, h0, h6, h5, k⟩ := h
    refine ⟨_, (pss_cons (ps_set (i := 2) sc_rising_rows.nd rfl (Or.inl rfl) (pe_lst (pa_cons (pe_tup pa_nil) pa_nil)))
    (pss_cons (ps_for PassesOwn.never rfl (pi_range1 rfl T.g_range (pa_cons (pv 1) pa_nil)) (pg_name (i := 3) sc_rising_rows.nd rfl (Or.inl rfl))
    (pss_one (ps_setLc2 (i := 2) (own := [("row", 4), ("one", 5)]) (vs1 := [5]) (g := (gName 4)) (g1 := (gName 5)) (tt := tYes) (tt1 := tYes) rfl sc_rising_rows.nd rfl rfl (sw_true rfl rfl rfl (by decide +kernel)) (pi_listK (K := K) rfl (pv 2)) (blkOk_by (N := ["many", "size", "rows", "turn", "row", "one"]) (sc := defScope s_rising_rows) (by decide +kernel)) (by decide) (fun _ _ _ _ _ => (pg_name (i := 4) sc_rising_rows.nd rfl (Or.inl rfl))) (fun _ _ _ _ _ => pts_nil) (fun _ _ _ _ _ => (pi_range2 rfl T.g_range (pa_cons (pe_ifExp (pt_cmpR op_gt (pe_callB (call_lenA (K := K) rfl) (by rfl) T.g_len (by decide +kernel) (pa_cons (pv 4) pa_nil)) pe_int (nomark _)) (pe_op op_add (pe_ix (ix_A (K := K) rfl) (pv 4) (pe_un un_neg pe_int) (fun _ _ => rfl)) pe_int) pe_int) (pa_cons (pv 0) pa_nil)))) (fun _ _ _ _ _ => (pg_name (i := 5) sc_rising_rows.nd rfl (Or.inl rfl))) (fun _ _ _ _ _ => pts_nil) (fun _ _ _ _ _ => (pe_op (op_catAK (K := K) rfl) (pv 4) (pe_tup (pa_cons (pv 5) pa_nil)))))))
    (pss_one (ps_ret (pv 2))))), ?_⟩
    refine ⟨Nat.zero_le _, fun p hp => ⟨(by show 1 ≤ sizeLine; decide), fun l hl => ?_⟩⟩
    have nl : l ≠ p := fun e => by rw [e, upd_same] at hl; cases hl
    have hl0 : H l = none := by rw [upd_ne nl] at hl; exact hl
    have s1 : Same H (upd (upd H p (.tup [])) l (.lst [.ref p])) := Same.put (Same.new hp) hl
    refine ⟨_, rfl, (n : Int), rfl, by omega, by omega, for_range (lo := 0) (n := n) (fun j σ H' => ∃ (rl : Addr) (v : Option V), σ = [some (.int m), some (.int (n : Int)), some (.ref rl), v, none, none] ∧ Same H H' ∧ H rl = none ∧ LotL H' rl (rows m j))
      ⟨l, none, rfl, s1, hl0, [p], upd_same, .cons (by show upd _ _ _ p = _; rw [upd_ne nl.symm, upd_same]; rfl) .nil⟩ ?_ ?_⟩
    · rintro j σ H' hj ⟨rl, v, rfl, s', fr, as, hrl, ls⟩
      obtain ⟨ps, e1, e2, hps⟩ := lots_zip ls
      subst e1
      have hr : ∀ p ∈ ps, LotOk m p.2 ∧ p.2.length = j := fun p hp => mem_rows.mp (by rw [e2]; exact List.mem_map.mpr ⟨p, hp, rfl⟩)
      have hall : ps.flatMap (fun p => ext m p.2) = rows m (j + 1) := by
        show _ = (rows m j).flatMap (ext m)
        rw [e2, List.flatMap_map]
      have hsm := (rows_small h0 h6 (show j + 1 ≤ 5 by omega)).1
      refine ⟨_, rfl, rl, rfl, ⟨_, SqL.of hrl⟩, fun D hD => ?_⟩
      refine lc2_LR (K := K) ps (fun p => V.ref p.1) (fun p => ext m p.2) (fun p => nxt p.2) (IsLotR id) (stb_lot _) (by rw [hrl, fst_map]) hD (by rw [hall]; omega) (fun p hp H2 s2 Rn kn => ?_) (fun p hp q y hy H2 s2 Rq kq => ?_) (fun _ => rfl) (fun ys H2 s2 hys pp => ?_)
      · have hT : TupI H2 p.1 p.2 := s2 _ _ (hps p hp)
        obtain ⟨hok, hlen⟩ := hr p hp
        have hnn := nxt_nn hok
        have fin : ∀ z : Int, z = nxt p.2 → ∃ v, ([some (V.int m), some (.int (n : Int)), some (.ref rl), some (V.int (0 + (j : Int))), some (V.ref p.1), none] : L2.St)[0]? = some (some v) ∧ ∃ i j : Int, [V.int z, v] = [.int i, .int j] ∧ (-(2 ^ 62) ≤ i ∧ i < 2 ^ 62 ∧ -(2 ^ 62) ≤ j ∧ j < 2 ^ 62) ∧ Rn (Itr i (j - i).toNat) H2 := fun z ez => by
          subst ez
          refine ⟨_, rfl, nxt p.2, m, rfl, ?_, ?_⟩
          · have : nxt p.2 ≤ m := by
              rcases list_last p.2 with e | ⟨r, x, e⟩
              · rw [e, nxt_nil]; exact h0
              · rw [e, nxt_app]
                have := (hok.2 x (by rw [e]; exact List.mem_append_right _ (List.mem_singleton.mpr rfl))).2
                omega
            omega
          · rw [← ext_len]; exact kn H2 (Same.refl _)
        refine ⟨_, rfl, p.1, _, rfl, .inr (SqT.of hT), _, _, rfl, rfl, _, rfl, ?_⟩
        rcases list_last p.2 with e | ⟨r, x, e⟩
        · rw [List.length_map, e]
          exact iteF (fin 0 (by rw [e]; rfl))
        · have hd : decide ((0 : Int) < (((p.2.map V.int).length : Nat) : Int)) = true := decide_eq_true (by rw [List.length_map, e, List.length_append, List.length_singleton]; omega)
          rw [hd]
          refine iteT ⟨_, rfl, _, rfl, p.1, _, -1, .int x, rfl, rfl, .inr (SqT.of hT), ?_, _, _, rfl, rfl, fin _ ?_⟩
          · rw [e, List.map_append]; exact atI_last _ _
          · rw [e, nxt_app]
      · have hT : TupI H2 p.1 p.2 := s2 _ _ (hps p hp)
        obtain ⟨hok, hlen⟩ := hr p hp
        have ey := ext_at hy
        subst ey
        refine ⟨_, rfl, _, rfl, (by show 1 ≤ sizeLine; decide), fun t ht => ?_⟩
        have s3 := Same.new (o := .tup [V.int (nxt p.2 + (q : Int))]) ht
        exact cat_read (t := [nxt p.2 + (q : Int)]) (s3 _ _ hT) upd_same (by rw [hlen]; simp; omega) fun r H4 s4 hr4 => kq _ _ (s3.trans s4) ⟨r, rfl, hr4⟩
      · obtain ⟨bs, e3, l3⟩ := paired_lot pp
        rw [List.map_id, hall] at l3
        rw [e3] at hys
        exact ⟨D, _, rfl, s'.trans s2, Same.free s' hD, bs, hys, l3⟩
    · rintro σ H' ⟨rl, v, rfl, s', fr, hL⟩
      exact ⟨_, rfl, k rl H' s' fr hL⟩
end
end Ws
end
section
set_option Elab.async false
set_option linter.all false
set_option maxRecDepth 100000
set_option maxHeartbeats 4000000
namespace Ws
open PySem PySem.Spec PyProof.Rows L2
set_option autoImplicit false
theorem filter_tt {α : Type} (l : List α) : (l.filter fun _ => true) = l := List.filter_eq_self.mpr fun _ _ => rfl
section
variable {P : Program} {w : World} {K : PySem.W.Frag} {mg : Str → Option Value} {base : Heap} {c : Cs} {f1 f2 f3 f4 : Addr} {t9 t6 : Tok}
theorem ok__law_rows (T : Txt P K mg c.CB c.CL c.C1 c.C2 c.C3 c.C4 f1 f2 f3 f4 t9 t6)  {f : Addr} {fd : FuncData} (F : Fun K "_law_rows" "_law_rows" s__law_rows f fd) : FnOk P w K mg base CX0 1 f fd ["_law_many", "_law_size"] (sp__law_rows c) := by
  refine F.ok sc__law_rows (fun vs H Q E h => ?_) (fun cdv A outer s H vs Q E hr h => ?_)
  · obtain ⟨m, n, rfl, h0, h6, h5, k⟩ := h
    rfl
  · obtain ⟨m, n, rfl, h0, h6, h5, k⟩ := h
    refine ⟨_, (pss_cons (ps_set (i := 2) sc__law_rows.nd rfl (Or.inl rfl) (pe_lst (pa_cons (pe_tup pa_nil) pa_nil)))
    (pss_cons (ps_for PassesOwn.never rfl (pi_range1 rfl T.g_range (pa_cons (pv 1) pa_nil)) (pg_name (i := 3) sc__law_rows.nd rfl (Or.inl rfl))
    (pss_cons (ps_set (i := 4) sc__law_rows.nd rfl (Or.inl rfl) (pe_lst pa_nil))
    (pss_cons (ps_for PassesOwn.never rfl (pi_listK (K := K) rfl (pv 2)) (pg_name (i := 5) sc__law_rows.nd rfl (Or.inr rfl))
    (pss_one (ps_set (i := 4) sc__law_rows.nd rfl (Or.inl rfl) (pe_op op_cat (pv 4) (pe_lc (own := [("_law_one", 6)]) (g := (gName 6)) (tt := tYes) rfl sc__law_rows.nd (pi_range2 rfl T.g_range (pa_cons (pe_ifExp (pt_cmpR (op_neD hr.units) (pv 5) (pe_tup pa_nil) (nomark _)) (pe_op op_add (pe_ix (ix_A (K := K) rfl) (pv 5) (pe_un un_neg pe_int) (fun _ _ => rfl)) pe_int) pe_int) (pa_cons (pv 0) pa_nil))) (blkOk_by (N := ["_law_many", "_law_size", "_law_rows_here", "_law_turn", "_law_longer", "_law_row", "_law_one"]) (sc := defScope s__law_rows) (by decide +kernel)) (fun _ _ _ _ _ => (pg_name (i := 6) sc__law_rows.nd rfl (Or.inl rfl))) (fun _ _ _ _ _ => pts_nil) (fun _ _ _ _ _ => (pe_op (op_catAK (K := K) rfl) (pv 5) (pe_tup (pa_cons (pv 6) pa_nil)))))))))
    (pss_one (ps_set (i := 2) sc__law_rows.nd rfl (Or.inl rfl) (pv 4))))))
    (pss_one (ps_ret (pv 2))))), ?_⟩
    refine ⟨Nat.zero_le _, fun p hp => ⟨(by show 1 ≤ sizeLine; decide), fun l hl => ?_⟩⟩
    have nl : l ≠ p := fun e => by rw [e, upd_same] at hl; cases hl
    have hl0 : H l = none := by rw [upd_ne nl] at hl; exact hl
    have s1 : Same H (upd (upd H p (.tup [])) l (.lst [.ref p])) := Same.put (Same.new hp) hl
    refine ⟨_, rfl, (n : Int), rfl, by omega, by omega, for_range (lo := 0) (n := n) (fun j σ H' => ∃ (rl : Addr) (v w u : Option V), σ = [some (.int m), some (.int (n : Int)), some (.ref rl), v, w, u, none] ∧ Same H H' ∧ H rl = none ∧ LotL H' rl (rows m j))
      ⟨l, none, none, none, rfl, s1, hl0, [p], upd_same, .cons (by show upd _ _ _ p = _; rw [upd_ne nl.symm, upd_same]; rfl) .nil⟩ ?_ ?_⟩
    · rintro j σ H' hj ⟨rl, v, w, u, rfl, s', fr, as, hrl, ls⟩
      obtain ⟨ps, e1, e2, hps⟩ := lots_zip ls
      subst e1
      have hr : ∀ p ∈ ps, LotOk m p.2 ∧ p.2.length = j := fun p hp => mem_rows.mp (by rw [e2]; exact List.mem_map.mpr ⟨p, hp, rfl⟩)
      have hall : ps.flatMap (fun p => ext m p.2) = rows m (j + 1) := by
        show _ = (rows m j).flatMap (ext m)
        rw [e2, List.flatMap_map]
      have hsm := (rows_small h0 h6 (show j + 1 ≤ 5 by omega)).1
      have hrl' : H' rl = some (.lst (ps.map fun p => V.ref p.1)) := by rw [hrl, fst_map]
      refine ⟨Nat.zero_le _, fun g hg => ?_⟩
      have hg0 : H g = none := Same.free s' hg
      have s1 : Same H' (upd H' g (.lst [])) := Same.new hg
      refine ⟨_, rfl, rl, rfl, ⟨_, SqL.of (s1 _ _ hrl)⟩, for_list (K := K) (a := rl) (xs := ps.map fun p => V.ref p.1) (fun i σ H2 => ∃ (lg : Addr) (u : Option V), σ = [some (.int m), some (.int (n : Int)), some (.ref rl), some (.int (0 + (j : Int))), some (.ref lg), u, none] ∧ Same H' H2 ∧ H' lg = none ∧ LotL H2 lg ((ps.take i).flatMap fun p => ext m p.2))
        ⟨g, u, rfl, s1, hg, [], upd_same, .nil⟩ (fun i σ H2 _ ⟨_, _, _, s2, _⟩ => SqL.of (s2 _ _ hrl')) ?_ ?_⟩
      · rintro i x σ H2 hx ⟨lg, u, rfl, s2, fl, bs, hlg, lb⟩
        rw [List.getElem?_map] at hx
        obtain ⟨p, hpi, ex⟩ := Option.map_eq_some_iff.mp hx
        subst ex
        have hp := List.mem_of_getElem? hpi
        have hT : TupI H2 p.1 p.2 := s2 _ _ (hps p hp)
        obtain ⟨hok, hlen⟩ := hr p hp
        have hnn := nxt_nn hok
        have hmore := flat_more (fun p : Addr × List Int => ext m p.2) hpi
        have htot : ((ps.take (i + 1)).flatMap fun p => ext m p.2).length ≤ 1000 := by
          have l3 : ((ps.take (i + 1)).flatMap fun p => ext m p.2).length ≤ (ps.flatMap fun p => ext m p.2).length := by
            conv => rhs; rw [← List.take_append_drop (i + 1) ps, List.flatMap_append, List.length_append]
            exact Nat.le_add_right _ _
          rw [hall] at l3
          omega
        have hbs := Paired.len' lb
        have bnd : -(2 ^ 62) ≤ nxt p.2 ∧ nxt p.2 < 2 ^ 62 ∧ -(2 ^ 62) ≤ m ∧ m < 2 ^ 62 := by
          have : nxt p.2 ≤ m := by
            rcases list_last p.2 with e | ⟨r, x, e⟩
            · rw [e, nxt_nil]; exact h0
            · rw [e, nxt_app]
              have := (hok.2 x (by rw [e]; exact List.mem_append_right _ (List.mem_singleton.mpr rfl))).2
              omega
          omega
        have core : ∀ (z : Int) (ez : nxt p.2 = z) (H3 : Hp), Same H2 H3 → ∀ D, H3 D = none → ∀ Qd : Hp → Prop, (∀ ys H4, Same H3 H4 → H4 D = some (.lst ys) → Paired (fun x y => IsLotR (fun o => p.2 ++ [o]) x y H4) (rng (nxt p.2) m) ys → Qd H4) → _ := fun z ez H3 s3 D hD Qd kd => lc_fmR (H1 := H3) (D := D) (σ := [some (.int m), some (.int (n : Int)), some (.ref rl), some (.int (0 + (j : Int))), some (.ref lg), some (V.ref p.1), none]) (i := 6) (tt := tYes) (te := tOp (rCatA K) (tVar 5) (tTup (tCons (tVar 6) tNil))) (Qd := Qd) z m (fun _ => true) (IsLotR fun o => p.2 ++ [o]) (stb_lot _) hD (by rw [len_rng]; omega)
          (fun x _ H' _ Rb kb => kb _ (Same.refl _)) (fun o ho _ H4 s4 Rq kq => by
            refine ⟨_, rfl, _, rfl, (by show 1 ≤ sizeLine; decide), fun t ht => ?_⟩
            have s5 := Same.new (o := .tup [V.int o]) ht
            exact cat_read (t := [o]) (s5 _ _ (s4 _ _ (s3 _ _ hT))) upd_same (by rw [hlen]; simp; omega) fun r H5 s6 hr5 => kq _ _ (s5.trans s6) ⟨r, rfl, hr5⟩) (fun ys H4 s4 hys pp => kd ys H4 s4 hys (by rw [filter_tt, ← ez] at pp; exact pp))
        -- behind it
        have behind : ∀ (H3 : Hp), Same H2 H3 → ∀ D, H3 D = none → ∀ ys H4, Same H3 H4 → H4 D = some (.lst ys) → Paired (fun x y => IsLotR (fun o => p.2 ++ [o]) x y H4) (rng (nxt p.2) m) ys → ∃ l b xs zs, V.ref lg = .ref l ∧ V.ref D = .ref b ∧ H4 l = some (.lst xs) ∧ H4 b = some (.lst zs) ∧ xs.length + zs.length ≤ sizeLine ∧ ∀ q, H4 q = none → ∃ (lg : Addr) (u : Option V), ([some (.int m), some (.int (n : Int)), some (.ref rl), some (.int (0 + (j : Int))), some (.ref q), some (V.ref p.1), none] : L2.St) = [some (.int m), some (.int (n : Int)), some (.ref rl), some (.int (0 + (j : Int))), some (.ref lg), u, none] ∧ Same H' (upd H4 q (.lst (xs ++ zs))) ∧ H' lg = none ∧ LotL (upd H4 q (.lst (xs ++ zs))) lg ((ps.take (i + 1)).flatMap fun p => ext m p.2) := fun H3 s3 D hD ys H4 s4 hys pp => by
          obtain ⟨cs, e3, l3⟩ := paired_lot pp
          have l3' : Lots H4 cs (ext m p.2) := l3
          have hcs := Paired.len' l3'
          rw [e3] at hys
          have s5 := s3.trans s4
          refine ⟨lg, D, _, _, rfl, rfl, s5 _ _ hlg, hys, ?_, fun q hq => ⟨q, _, rfl, Same.put (s2.trans s5) hq, Same.free (s2.trans s5) hq, bs ++ cs, ?_, ?_⟩⟩
          · rw [List.length_map, List.length_map, hbs, hcs]
            rw [hmore, List.length_append] at htot
            exact small_k (by omega)
          · rw [upd_same, List.map_append]
          · rw [hmore]
            exact Paired.app2 ((lb.same s5).same (Same.new hq)) (l3'.same (Same.new hq))
        refine ⟨_, rfl, _, rfl, Nat.zero_le _, fun t ht => ⟨_, _, dp_lot (Same.new ht _ _ hT), dp_lot (s := []) upd_same, sh_lot _, sh_lot _, _, rfl, ?_⟩⟩
        have s3 : Same H2 (upd H2 t (.tup [])) := Same.new ht
        rw [eqv_lot]
        rcases list_last p.2 with e | ⟨r, x, e⟩
        · rw [decide_eq_true e]
          have e0 : nxt p.2 = 0 := by rw [e]; rfl
          refine iteF ⟨_, rfl, 0, m, rfl, by rw [← e0]; exact bnd, fun D hD => core 0 e0 _ s3 D hD _ fun ys H4 s4 hys pp => behind _ s3 D hD ys H4 s4 hys pp⟩
        · rw [decide_eq_false (by rw [e]; simp)]
          have e0 : nxt p.2 = x + 1 := by rw [e, nxt_app]
          refine iteT ⟨_, rfl, _, rfl, p.1, _, -1, .int x, rfl, rfl, .inr (SqT.of (s3 _ _ hT)), ?_, _, _, rfl, rfl, _, rfl, x + 1, m, rfl, by rw [← e0]; exact bnd, fun D hD => core (x + 1) e0 _ s3 D hD _ fun ys H4 s4 hys pp => behind _ s3 D hD ys H4 s4 hys pp⟩
          rw [e, List.map_append]; exact atI_last _ _
      · rintro σ H2 ⟨lg, u, rfl, s2, fl, hL⟩
        rw [List.length_map, List.take_length, hall] at hL
        exact ⟨_, rfl, lg, _, _, _, rfl, s'.trans s2, Same.free s' fl, hL⟩
    · rintro σ H' ⟨rl, v, w, u, rfl, s', fr, hL⟩
      exact ⟨_, rfl, k rl H' s' fr hL⟩
end
end Ws
end
section
set_option Elab.async false
set_option linter.all false
set_option maxRecDepth 100000
set_option maxHeartbeats 4000000
namespace Ws
open PySem PySem.Spec PyProof.Rows L2
set_option autoImplicit false
theorem lkB1 (m : Int) (k : Nat) (gs d : Addr) : (bookF m k gs d).lookup ("many" : Str) = some (.int m) := by with_unfolding_all rfl
theorem lkB2 (m : Int) (k : Nat) (gs d : Addr) : (bookF m k gs d).lookup ("places" : Str) = some (.int (k : Int)) := by with_unfolding_all rfl
theorem lkB4 (m : Int) (k : Nat) (gs d : Addr) : (bookF m k gs d).lookup ("by_lot" : Str) = some (.ref d) := by with_unfolding_all rfl
theorem take_fold {α β : Type} (f : β → α → β) (z : β) {as : List α} {j : Nat} {x : α} (e : as[j]? = some x) : (as.take (j + 1)).foldl f z = f ((as.take j).foldl f z) x := by
  rw [List.take_add_one, e, List.foldl_append]
  rfl
theorem map_int_at {s : List Int} {i : Nat} {v : V} (h : (s.map V.int)[i]? = some v) : ∃ x, s[i]? = some x ∧ v = .int x := by
  rw [List.getElem?_map] at h
  obtain ⟨x, e1, e2⟩ := Option.map_eq_some_iff.mp h
  exact ⟨x, e1, e2.symm⟩
theorem fold_pre {m : Int} {k : Nat} {g : List Int → Int} (G : Good m k g) {t row : List Int} (ht : Stay m k t) (hr : ∀ x ∈ row, 0 ≤ x ∧ x < m) (i : Nat) : Stay m k ((row.take i).foldl (step g k) t) :=
  fold_stay G _ t ht fun x hx => hr x (List.mem_of_mem_take hx)
theorem goersF_is (g : List Int → Int) (w : List Int) : (w.filter fun y => inV (.int y) ((w.map fun x => g (less w x)).map V.int)) = goersF g w := by
  unfold goersF
  refine List.filter_congr fun y _ => ?_
  rw [inV_int]
section
variable {P : Program} {w : World} {K : PySem.W.Frag} {mg : Str → Option Value} {base : Heap} {c : Cs} {f1 f2 f3 f4 : Addr} {t9 t6 : Tok}
theorem ok_come_along (T : Txt P K mg c.CB c.CL c.C1 c.C2 c.C3 c.C4 f1 f2 f3 f4 t9 t6) (d_without : Dn P w K mg base CX0 1 "without" ["lot", "thing"] (sp_without c)) {f : Addr} {fd : FuncData} (F : Fun K "come_along" "come_along" s_come_along f fd) : FnOk P w K mg base CX0 2 f fd ["book", "stays", "row"] (sp_come_along c) := by
  refine F.ok sc_come_along (fun vs H Q E h => ?_) (fun cdv A outer s H vs Q E hr h => ?_)
  · obtain ⟨b, st, r, m, n, g, t, row, rfl, hb, G, hn, hst, hS, hrw, hrow, k⟩ := h
    rfl
  · obtain ⟨b, st, r, m, n, g, t, row, rfl, hb, G, hn, hst, hS, hrw, hrow, k⟩ := h
    refine ⟨_, (pss_cons (ps_for PassesOwn.never rfl (pi_tupK (K := K) rfl (pv 2)) (pg_name (i := 3) sc_come_along.nd rfl (Or.inl rfl))
    (pss_one (ps_if (pt_cmpR (op_notInK (K := K) rfl) (pv 3) (pv 1) (by rfl))
    (pss_cons (ps_set (i := 1) sc_come_along.nd rfl (Or.inl rfl) (pe_callTy (call_tupleA (K := K) rfl) (by rfl) T.g_tuple (by decide +kernel) (pa_cons (pe_callB cr_sortedTI (by rfl) T.g_sorted (by decide +kernel) (pa_cons (pe_op (op_catAK (K := K) rfl) (pv 1) (pe_tup (pa_cons (pv 3) pa_nil))) pa_nil)) pa_nil)))
    (pss_one (ps_if (pt_cmpR op_gt (pe_callB (call_lenA (K := K) rfl) (by rfl) T.g_len (by decide +kernel) (pa_cons (pv 1) pa_nil)) (pe_fldK (K := K) rfl (pv 0)) (nomark _))
    (pss_one (ps_set (i := 1) sc_come_along.nd rfl (Or.inl rfl) (pe_dn d_without (hr.mono (by decide)) pA0 (pa_cons (pv 1) (pa_cons (pe_dget (hu_of hr) (pe_fldK (K := K) rfl (pv 0)) (pv 1) (fun _ _ => rfl)) pa_nil)))))
    pss_nil)))
    pss_nil)))
    (pss_one (ps_ret (pv 1)))), ?_⟩
    refine ⟨_, rfl, r, rfl, ⟨_, SqT.of hrw⟩, for_tup (K := K) (a := r) (xs := row.map V.int) (fun i σ H' => ∃ (a : Addr) (v : Option V), σ = [some (.ref b), some (.ref a), some (.ref r), v] ∧ Same H H' ∧ TupI H' a ((row.take i).foldl (step g n) t))
      ⟨st, none, rfl, Same.refl H, hst⟩ (fun i σ H' _ ⟨_, _, _, s', _⟩ => SqT.of (s' _ _ hrw)) ?_ ?_⟩
    · rintro i v σ H' hv ⟨a, w, rfl, s', ha⟩
      obtain ⟨x, hx, rfl⟩ := map_int_at hv
      have hxm := hrow x (List.mem_of_getElem? hx)
      have hStay := fold_pre G hS hrow i
      have more := take_fold (step g n) t hx
      generalize (row.take i).foldl (step g n) t = u at ha hStay more
      refine ⟨_, rfl, _, rfl, a, _, rfl, .inr (SqT.of ha), rfl, flat_ints _, _, rfl, ?_⟩
      rw [inV_int]
      by_cases hxu : x ∈ u
      · rw [decide_eq_true hxu]
        refine iteF ⟨a, _, rfl, s', ?_⟩
        rw [more]; unfold step; rw [if_pos hxu]; exact ha
      · rw [decide_eq_false hxu]
        have hle := hStay.le
        refine iteT ⟨_, rfl, _, rfl, (by show 1 ≤ sizeLine; decide), fun q hq => ?_⟩
        have s1 : Same H' (upd H' q (.tup [V.int x])) := Same.new hq
        refine cat_read (t := [x]) (s1 _ _ ha) upd_same (by simp; omega) fun r2 H2 s2 hr2 => ?_
        refine ⟨r2, _, rfl, SqT.of hr2, fun u' p3 hp hle' hn3 => ⟨p3, _, rfl, .inl ⟨SqL.of upd_same, fun a2 ha2n => ?_⟩⟩⟩
        have s3 : Same H2 (upd (upd H2 p3 (.lst (u'.map V.int))) a2 (.tup (u'.map V.int))) := Same.put (Same.new hn3) ha2n
        have ha2 : TupI (upd (upd H2 p3 (.lst (u'.map V.int))) a2 (.tup (u'.map V.int))) a2 u' := upd_same
        generalize upd (upd H2 p3 (.lst (u'.map V.int))) a2 (.tup (u'.map V.int)) = H3 at s3 ha2
        have eu : u' = insA x u := insA_of hStay.ok.1 hxu hp hle'
        subst eu
        have hok := hStay.ok.ins hxu hxm.1 hxm.2
        have hlen := len_insA x u
        have s4 : Same H H3 := ((s'.trans s1).trans s2).trans s3
        obtain ⟨dx, gs, d, hbi, htab⟩ := hb.same s4
        refine ⟨_, rfl, a2, _, rfl, .inr (SqT.of ha2), _, rfl, b, _, _, _, _, rfl, hbi, T.clB, T.nB2, lkB2 m n gs d, _, _, rfl, rfl, _, rfl, ?_⟩
        rw [List.length_map]
        by_cases hfull : n < (insA x u).length
        · rw [decide_eq_true (show ((n : Int) < (((insA x u).length : Nat) : Int)) by omega)]
          refine iteT ⟨_, rfl, _, rfl, b, _, _, _, _, rfl, hbi, T.clB, T.nB4, lkB4 m n gs d, _, rfl, dget_read htab hok (by omega) ha2 ?_⟩
          refine ⟨a2, insA x u, _, rfl, ha2, by omega, fun r5 H5 s5 hr5 => ⟨r5, _, rfl, s4.trans s5, ?_⟩⟩
          rw [more]; unfold step; rw [if_neg hxu, if_pos hfull]; exact hr5
        · rw [decide_eq_false (show ¬ ((n : Int) < (((insA x u).length : Nat) : Int)) by omega)]
          refine iteF ⟨a2, _, rfl, s4, ?_⟩
          rw [more]; unfold step; rw [if_neg hxu, if_neg hfull]; exact ha2
    · rintro σ H' ⟨a, w, rfl, s', ha⟩
      rw [List.length_map, List.take_length] at ha
      exact ⟨_, rfl, k a H' s' ha⟩
theorem ok_goer_without (T : Txt P K mg c.CB c.CL c.C1 c.C2 c.C3 c.C4 f1 f2 f3 f4 t9 t6) (d_without : Dn P w K mg base CX0 1 "without" ["lot", "thing"] (sp_without c)) {f : Addr} {fd : FuncData} (F : Fun K "goer_without" "goer_without" s_goer_without f fd) : FnOk P w K mg base CX0 2 f fd ["book", "lot", "thing"] (sp_goer_without c) := by
  refine F.ok sc_goer_without (fun vs H Q E h => ?_) (fun cdv A outer s H vs Q E hr h => ?_)
  · obtain ⟨b, l, m, n, g, w, x, rfl, hb, hl, hw, hlen, hn, hx, k⟩ := h
    rfl
  · obtain ⟨b, l, m, n, g, w, x, rfl, hb, hl, hw, hlen, hn, hx, k⟩ := h
    obtain ⟨dx, gs, d, hbi, htab⟩ := id hb
    refine ⟨_, (pss_one (ps_ret (pe_dget (hu_of hr) (pe_fldK (K := K) rfl (pv 0)) (pe_dn d_without (hr.mono (by decide)) pA0 (pa_cons (pv 1) (pa_cons (pv 2) pa_nil))) (fun _ _ => rfl)))), ?_⟩
    refine ⟨_, rfl, b, _, _, _, _, rfl, hbi, T.clB, T.nB4, lkB4 m n gs d, _, rfl, _, rfl, l, w, x, rfl, hl, by omega, fun r H' s' hr' => ?_⟩
    have ll := len_less hw.1.nodup hx
    exact dget_read (htab.same s') (hw.less x) (by omega) hr' (k H' s')
theorem ok_goers_of (T : Txt P K mg c.CB c.CL c.C1 c.C2 c.C3 c.C4 f1 f2 f3 f4 t9 t6) (d_goer_without : Dn P w K mg base CX0 2 "goer_without" ["book", "lot", "thing"] (sp_goer_without c)) {f : Addr} {fd : FuncData} (F : Fun K "goers_of" "goers_of" s_goers_of f fd) : FnOk P w K mg base CX0 3 f fd ["book", "lot"] (sp_goers_of c) := by
  refine F.ok sc_goers_of (fun vs H Q E h => ?_) (fun cdv A outer s H vs Q E hr h => ?_)
  · obtain ⟨b, l, m, n, g, w, rfl, hb, hl, hw, hlen, hn, k⟩ := h
    rfl
  · obtain ⟨b, l, m, n, g, w, rfl, hb, hl, hw, hlen, hn, k⟩ := h
    refine ⟨_, (pss_one (ps_ret (pe_callTy (call_tupleA (K := K) rfl) (by rfl) T.g_tuple (by decide +kernel) (pa_cons (pe_lc (own := [("thing", 2)]) (g := (gName 2)) rfl sc_goers_of.nd (pi_tupK (K := K) rfl (pv 1)) (blkOk_by (N := ["book", "lot", "thing", "one"]) (sc := defScope s_goers_of) (by decide +kernel)) (fun _ _ _ _ _ => (pg_name (i := 2) sc_goers_of.nd rfl (Or.inl rfl))) (fun _ _ _ _ _ => (pts_one (pt_cmpR (op_inK (K := K) rfl) (pv 2) (pe_lc (own := [("one", 3)]) (g := (gName 3)) (tt := tYes) rfl sc_goers_of.nd (pi_tupK (K := K) rfl (pv 1)) (blkOk_by (N := ["book", "lot", "thing", "one"]) (sc := _) (by kernel_rfl)) (fun _ _ _ _ _ => (pg_name (i := 3) sc_goers_of.nd rfl (Or.inl rfl))) (fun _ _ _ _ _ => pts_nil) (fun _ _ _ _ _ => (pe_dn d_goer_without (hr.mono (by decide)) pA0 (pa_cons (pv 0) (pa_cons (pv 1) (pa_cons (pv 3) pa_nil)))))) (by rfl)))) (fun _ _ _ _ _ => (pv 2))) pa_nil)))), ?_⟩
    refine ⟨_, rfl, l, rfl, ⟨_, SqT.of hl⟩, fun D hD => lc_fmT w V.int (fun y => inV (.int y) ((w.map fun x => g (less w x)).map V.int)) (IsIntR id) (stb_int _) hl hD (by omega) (fun y hy H' s' Rb kb => ?_) (fun y hy _ H' s' Rq kq => ?_) fun ys H' s' hys pp => ?_⟩
    · refine ⟨_, rfl, _, rfl, l, rfl, ⟨_, SqT.of (s' _ _ hl)⟩, fun D2 hD2 => lc_fmT w V.int (fun _ => true) (IsIntR fun x => g (less w x)) (stb_int _) (s' _ _ hl) hD2 (by omega) (fun z hz H2 s2 Rb kb => kb _ (Same.refl _)) (fun z hz _ H2 s2 Rq kq => ?_) fun zs H2 s2 hzs pz => ?_⟩
      · refine ⟨_, rfl, _, rfl, _, rfl, b, l, m, n, g, w, z, rfl, (hb.same s').same s2, s2 _ _ (s' _ _ hl), hw, hlen, hn, hz, fun H3 s3 => kq _ _ s3 rfl⟩
      · rw [filter_tt] at pz
        rw [paired_int pz] at hzs
        exact ⟨D2, _, rfl, .inl (SqL.of hzs), rfl, flat_ints _, _, rfl, kb H2 s2⟩
    · exact ⟨_, rfl, kq _ _ (Same.refl _) rfl⟩
    · rw [paired_int pp, map_id_int] at hys
      refine ⟨_, _, rfl, .inl ⟨SqL.of hys, fun r hr' => k r _ (Same.put s' hr') ?_⟩⟩
      show upd H' r _ r = _
      rw [upd_same, goersF_is]
theorem ok_wide_lots (T : Txt P K mg c.CB c.CL c.C1 c.C2 c.C3 c.C4 f1 f2 f3 f4 t9 t6) (d_rising_rows : Dn P w K mg base CX0 1 "rising_rows" ["many", "size"] (sp_rising_rows c)) {f : Addr} {fd : FuncData} (F : Fun K "wide_lots" "wide_lots" s_wide_lots f fd) : FnOk P w K mg base CX0 2 f fd ["book"] (sp_wide_lots c) := by
  refine F.ok sc_wide_lots (fun vs H Q E h => ?_) (fun cdv A outer s H vs Q E hr h => ?_)
  · obtain ⟨b, m, n, g, rfl, hb, h0, h6, h3, k⟩ := h
    rfl
  · obtain ⟨b, m, n, g, rfl, hb, h0, h6, h3, k⟩ := h
    obtain ⟨dx, gs, d, hbi, htab⟩ := id hb
    refine ⟨_, (pss_one (ps_ret (pe_dn d_rising_rows (hr.mono (by decide)) pA0 (pa_cons (pe_fldK (K := K) rfl (pv 0)) (pa_cons (pe_op op_add (pe_fldK (K := K) rfl (pv 0)) pe_int) pa_nil))))), ?_⟩
    refine ⟨_, rfl, b, _, _, _, _, rfl, hbi, T.clB, T.nB1, lkB1 m n gs d, _, rfl, b, _, _, _, _, rfl, hbi, T.clB, T.nB2, lkB2 m n gs d, _, _, rfl, rfl, m, n + 2, rfl, h0, h6, by omega, fun l H' s' hl hL => k l H' s' hl hL⟩
theorem ok_bad_lots (T : Txt P K mg c.CB c.CL c.C1 c.C2 c.C3 c.C4 f1 f2 f3 f4 t9 t6) (d_goers_of : Dn P w K mg base CX0 3 "goers_of" ["book", "lot"] (sp_goers_of c)) (d_need_book : Dn P w K mg base CX0 1 "need_book" ["value"] (sp_need_book c)) (d_wide_lots : Dn P w K mg base CX0 2 "wide_lots" ["book"] (sp_wide_lots c)) {f : Addr} {fd : FuncData} (F : Fun K "bad_lots" "bad_lots" s_bad_lots f fd) : FnOk P w K mg base CX0 4 f fd ["book"] (sp_bad_lots c) := by
  refine F.ok sc_bad_lots (fun vs H Q E h => ?_) (fun cdv A outer s H vs Q E hr h => ?_)
  · obtain ⟨b, m, n, g, rfl, hb, h0, h6, h3, k⟩ := h
    rfl
  · obtain ⟨b, m, n, g, rfl, hb, h0, h6, h3, k⟩ := h
    refine ⟨_, (pss_cons (ps_expr (pe_dn d_need_book (hr.mono (by decide)) pA0 (pa_cons (pv 0) pa_nil)))
    (pss_one (ps_ret (pe_callTy (call_tupleA (K := K) rfl) (by rfl) T.g_tuple (by decide +kernel) (pa_cons (pe_lc (own := [("lot", 1)]) (g := (gName 1)) rfl sc_bad_lots.nd (pi_listK (K := K) rfl (pe_dn d_wide_lots (hr.mono (by decide)) pA0 (pa_cons (pv 0) pa_nil))) (blkOk_by (N := ["book", "lot"]) (sc := defScope s_bad_lots) (by decide +kernel)) (fun _ _ _ _ _ => (pg_name (i := 1) sc_bad_lots.nd rfl (Or.inl rfl))) (fun _ _ _ _ _ => (pts_one (pt_cmpR op_gt (pe_callB (call_lenA (K := K) rfl) (by rfl) T.g_len (by decide +kernel) (pa_cons (pe_dn d_goers_of (hr.mono (by decide)) pA0 (pa_cons (pv 0) (pa_cons (pv 1) pa_nil))) pa_nil)) pe_int (nomark _)))) (fun _ _ _ _ _ => (pv 1))) pa_nil))))), ?_⟩
    obtain ⟨dx, gs, d, hbi, htab⟩ := id hb
    refine ⟨_, rfl, b, dx, _, rfl, hbi, _, rfl, b, m, n, g, rfl, hb, h0, h6, h3, fun l H1 s1 hl hL => ?_⟩
    obtain ⟨as, hL1, hL2⟩ := hL
    obtain ⟨ps, e1, e2, hps⟩ := lots_zip hL2
    subst e1
    have hr : ∀ p ∈ ps, LotOk m p.2 ∧ p.2.length = n + 2 := fun p hp => mem_rows.mp (by rw [e2]; exact List.mem_map.mpr ⟨p, hp, rfl⟩)
    have hsm := (rows_small h0 h6 (show n + 2 ≤ 5 by omega)).1
    have hpl : ps.length = (rows m (n + 2)).length := by rw [e2, List.length_map]
    refine ⟨l, rfl, ⟨_, SqL.of hL1⟩, fun D hD => lc_fmL ps (fun p => V.ref p.1) (fun p => decide (2 < ((goersF g p.2).length : Int))) (fun _ _ _ => True) (fun _ _ _ _ _ _ => trivial) (by rw [hL1, fst_map]) hD (by omega) (fun p hp H' s' Rb kb => ?_) (fun p hp _ H' s' Rq kq => ?_) fun ys H' s' hys pp => ?_⟩
    · obtain ⟨hok, hlen⟩ := hr p hp
      refine ⟨_, rfl, _, rfl, b, p.1, m, n, g, p.2, rfl, (hb.same s1).same s', s' _ _ (hps p hp), hok, hlen, by omega, fun a H2 s2 ha => ⟨a, _, rfl, .inr (SqT.of ha), _, _, rfl, rfl, _, rfl, ?_⟩⟩
      rw [List.length_map]
      exact kb H2 s2
    · exact ⟨_, rfl, kq _ _ (Same.refl _) trivial⟩
    · refine ⟨_, _, rfl, .inl ⟨SqL.of hys, fun r hr' => k r ys _ (Same.put (s1.trans s') hr') upd_same ?_⟩⟩
      rw [← Paired.len' pp]
      unfold badF
      rw [e2, List.filter_map, List.length_map]
      rfl
theorem ok_is_steady (T : Txt P K mg c.CB c.CL c.C1 c.C2 c.C3 c.C4 f1 f2 f3 f4 t9 t6) (d_bad_lots : Dn P w K mg base CX0 4 "bad_lots" ["book"] (sp_bad_lots c)) {f : Addr} {fd : FuncData} (F : Fun K "is_steady" "is_steady" s_is_steady f fd) : FnOk P w K mg base CX0 5 f fd ["book"] (sp_is_steady c) := by
  refine F.ok sc_is_steady (fun vs H Q E h => ?_) (fun cdv A outer s H vs Q E hr h => ?_)
  · obtain ⟨b, m, n, g, rfl, hb, h0, h6, h3, k⟩ := h
    rfl
  · obtain ⟨b, m, n, g, rfl, hb, h0, h6, h3, k⟩ := h
    refine ⟨_, (pss_one (ps_ret (pe_cmpR op_eq (pe_callB (call_lenA (K := K) rfl) (by rfl) T.g_len (by decide +kernel) (pa_cons (pe_dn d_bad_lots (hr.mono (by decide)) pA0 (pa_cons (pv 0) pa_nil)) pa_nil)) pe_int (nomark _)))), ?_⟩
    refine ⟨_, rfl, b, m, n, g, rfl, hb, h0, h6, h3, fun a xs H' s' ha hlen => ⟨a, xs, rfl, .inr (SqT.of ha), rfl, ?_⟩⟩
    have e : decide (V.int ((xs.length : Nat) : Int) = V.int 0) = steadyB m n g := by
      rw [decV, hlen]; rfl
    show Q (.bl (decide (V.int ((xs.length : Nat) : Int) = V.int 0))) H'
    rw [e]
    exact k H' s'
theorem ok_need_steady (T : Txt P K mg c.CB c.CL c.C1 c.C2 c.C3 c.C4 f1 f2 f3 f4 t9 t6) (d_is_steady : Dn P w K mg base CX0 5 "is_steady" ["book"] (sp_is_steady c)) {f : Addr} {fd : FuncData} (F : Fun K "need_steady" "need_steady" s_need_steady f fd) : FnOk P w K mg base (L2.CX P w) 6 f fd ["value"] (sp_need_steady c) := by
  refine F.okX sc_need_steady (fun vs H Q E h => ?_) (fun cdv A outer s H vs Q E hr h => ?_)
  · obtain ⟨b, m, n, g, rfl, hb, h0, h6, h3, kT, kF⟩ := h
    rfl
  · obtain ⟨b, m, n, g, rfl, hb, h0, h6, h3, kT, kF⟩ := h
    refine ⟨_, (pss_cons (ps_if (pt_not (pt_val (pe_dn d_is_steady (hr.mono (by decide)) pA0 (pa_cons (pv 0) pa_nil))))
    (pss_one (ps_raiseX rfl T.x_NotSteady hr (takes_of rfl rfl rfl rfl) (pe_un un_neg pe_int)))
    pss_nil)
    (pss_one (ps_ret (pv 0)))), ?_⟩
    refine ⟨_, rfl, b, m, n, g, rfl, hb, h0, h6, h3, fun H' s' => ⟨_, rfl, ?_⟩⟩
    cases e : steadyB m n g with
    | true => exact iteF ⟨_, rfl, kT e H' s'⟩
    | false => exact iteT ⟨_, rfl, fun d hd => kF e _ d (Same.put s' hd) (Same.free s' hd) upd_same⟩
end
end Ws
end
section
set_option Elab.async false
set_option linter.all false
set_option maxRecDepth 100000
set_option maxHeartbeats 4000000
namespace Ws
open PySem PySem.Spec PyProof.Rows L2
set_option autoImplicit false
theorem nodup_take {s : List Int} {i : Nat} {x : Int} (h : s.Nodup) (e : s[i]? = some x) : x ∉ s.take i := fun hm => by
  obtain ⟨j, hj⟩ := List.mem_iff_getElem?.mp hm
  have hlt := (List.getElem?_eq_some_iff.mp hj).1
  rw [List.length_take] at hlt
  rw [List.getElem?_take_of_lt (by omega)] at hj
  have hi := (List.getElem?_eq_some_iff.mp e).1
  have e1 := List.getElem?_eq_some_iff.mp e
  have e2 := List.getElem?_eq_some_iff.mp hj
  have := (List.nodup_iff_pairwise_ne.mp h)
  rw [List.pairwise_iff_getElem] at this
  exact this j i (by omega) hi (by omega) (e2.2.trans e1.2.symm)
theorem cut1 (l : List Int) : cutV (l.map V.int) none (some 1) = (l.take 1).map V.int := by
  unfold cutV
  rw [HT.sIx_none]
  have : HT.sIx (l.map V.int).length (l.map V.int).length (some 1) = min 1 (l.map V.int).length := HT.sIx_nat _ _ 1
  rw [this]
  cases l with
  | nil => rfl
  | cons x r => simp
/-- what is left and what is taken, taste by taste -/
def takeN (ts : List (List Int)) (s : List Int) : List Int × List Int := ts.foldl (fun p r => (res r p.1, p.2 ++ best r p.1)) (s, [])
theorem takeN_fst : ∀ (ts : List (List Int)) (l k : List Int), (ts.foldl (fun p r => (res r p.1, p.2 ++ best r p.1)) (l, k)).1 = resid ts l
  | [], _, _ => rfl
  | r :: ts, l, k => takeN_fst ts (res r l) (k ++ best r l)
theorem takeN_ok (s : List Int) : ∀ (ts : List (List Int)) (l k : List Int), (s.filter fun x => !decide (x ∈ k)) = l → (s.filter fun x => !decide (x ∈ (ts.foldl (fun p r => (res r p.1, p.2 ++ best r p.1)) (l, k)).2)) = (ts.foldl (fun p r => (res r p.1, p.2 ++ best r p.1)) (l, k)).1
  | [], l, k, h => h
  | r :: ts, l, k, h => takeN_ok s ts (res r l) (k ++ best r l) (by
    unfold res
    rw [← h, List.filter_filter]
    refine List.filter_congr fun x _ => ?_
    rw [h]
    rw [Bool.eq_iff_iff]
    simp [not_or, and_comm])
theorem best_len (r l : List Int) : (best r l).length ≤ 1 := by unfold best; rw [List.length_take]; omega
theorem takeN_len (ts : List (List Int)) : ∀ (l k : List Int), (ts.foldl (fun p r => (res r p.1, p.2 ++ best r p.1)) (l, k)).2.length ≤ k.length + ts.length := by
  induction ts with
  | nil => intro l k; exact Nat.le_refl _
  | cons r ts ih =>
    intro l k
    have := ih (res r l) (k ++ best r l)
    have b := best_len r l
    rw [List.length_append] at this
    show (ts.foldl _ (res r l, k ++ best r l)).2.length ≤ _
    rw [List.length_cons]
    omega
theorem res_le (r l : List Int) : (res r l).length ≤ l.length := List.length_filter_le _ _
theorem takeN_le (ts : List (List Int)) : ∀ (l k : List Int), (ts.foldl (fun p r => (res r p.1, p.2 ++ best r p.1)) (l, k)).1.length ≤ l.length := by
  induction ts with
  | nil => intro l k; exact Nat.le_refl _
  | cons r ts ih => intro l k; exact Nat.le_trans (ih _ _) (res_le r l)
section
variable {P : Program} {w : World} {K : PySem.W.Frag} {mg : Str → Option Value} {base : Heap} {c : Cs} {f1 f2 f3 f4 : Addr} {t9 t6 : Tok}
theorem ok__law_list (T : Txt P K mg c.CB c.CL c.C1 c.C2 c.C3 c.C4 f1 f2 f3 f4 t9 t6) (d__law_less : Dn P w K mg base CX0 1 "_law_less" ["_law_lot", "_law_thing"] (sp__law_less c)) {f : Addr} {fd : FuncData} (F : Fun K "_law_list" "_law_list" s__law_list f fd) : FnOk P w K mg base CX0 2 f fd ["_law_table_here", "_law_places", "_law_lot"] (sp__law_list c) := by
  refine F.ok sc__law_list (fun vs H Q E h => ?_) (fun cdv A outer s H vs Q E hr h => ?_)
  · obtain ⟨d, a, m, n, g, lot, rfl, htab, G, hn, ha, hok, k⟩ := h
    rfl
  · obtain ⟨d, a, m, n, g, lot, rfl, htab, G, hn, ha, hok, k⟩ := h
    refine ⟨_, (pss_cons (ps_set (i := 3) sc__law_list.nd rfl (Or.inl rfl) (pe_tup pa_nil))
    (pss_cons (ps_for PassesOwn.never rfl (pi_tupK (K := K) rfl (pv 2)) (pg_name (i := 4) sc__law_list.nd rfl (Or.inl rfl))
    (pss_cons (ps_set (i := 3) sc__law_list.nd rfl (Or.inl rfl) (pe_callTy (call_tupleA (K := K) rfl) (by rfl) T.g_tuple (by decide +kernel) (pa_cons (pe_callB cr_sortedTI (by rfl) T.g_sorted (by decide +kernel) (pa_cons (pe_op (op_catAK (K := K) rfl) (pv 3) (pe_tup (pa_cons (pv 4) pa_nil))) pa_nil)) pa_nil)))
    (pss_one (ps_if (pt_cmpR op_gt (pe_callB (call_lenA (K := K) rfl) (by rfl) T.g_len (by decide +kernel) (pa_cons (pv 3) pa_nil)) (pv 1) (nomark _))
    (pss_one (ps_set (i := 3) sc__law_list.nd rfl (Or.inl rfl) (pe_dn d__law_less (hr.mono (by decide)) pA0 (pa_cons (pv 3) (pa_cons (pe_dget (hu_of hr) (pv 0) (pv 3) (fun _ _ => rfl)) pa_nil)))))
    pss_nil))))
    (pss_one (ps_ret (pv 3))))), ?_⟩
    refine ⟨Nat.zero_le _, fun p hp => ?_⟩
    have s0 : Same H (upd H p (.tup [])) := Same.new hp
    refine ⟨_, rfl, a, rfl, ⟨_, SqT.of (s0 _ _ ha)⟩, for_tup (K := K) (a := a) (xs := lot.map V.int) (fun i σ H' => ∃ (st : Addr) (v : Option V), σ = [some (.ref d), some (.int (n : Int)), some (.ref a), some (.ref st), v] ∧ Same H H' ∧ TupI H' st ((lot.take i).foldl (step g n) []))
      ⟨p, none, rfl, s0, upd_same⟩ (fun i σ H' _ ⟨_, _, _, s', _⟩ => SqT.of (s' _ _ ha)) ?_ ?_⟩
    · rintro i v σ H' hv ⟨st, w, rfl, s', hst⟩
      obtain ⟨x, hx, rfl⟩ := map_int_at hv
      have hxm := hok.2 x (List.mem_of_getElem? hx)
      have hStay := fold_pre G (.nil m n) hok.2 i
      have more := take_fold (step g n) [] hx
      have hxu : x ∉ (lot.take i).foldl (step g n) [] := fun q => by
        rcases lst_sub _ _ _ q with q | q
        · cases q
        · exact nodup_take hok.1.nodup hx q
      generalize (lot.take i).foldl (step g n) [] = u at hst hStay more hxu
      have hle := hStay.le
      refine ⟨_, rfl, _, rfl, (by show 1 ≤ sizeLine; decide), fun q hq => ?_⟩
      have s1 : Same H' (upd H' q (.tup [V.int x])) := Same.new hq
      refine cat_read (t := [x]) (s1 _ _ hst) upd_same (by simp; omega) fun r2 H2 s2 hr2 => ?_
      refine ⟨r2, _, rfl, SqT.of hr2, fun u' p3 hp hle' hn3 => ⟨p3, _, rfl, .inl ⟨SqL.of upd_same, fun a2 ha2n => ?_⟩⟩⟩
      have s3 : Same H2 (upd (upd H2 p3 (.lst (u'.map V.int))) a2 (.tup (u'.map V.int))) := Same.put (Same.new hn3) ha2n
      have ha2 : TupI (upd (upd H2 p3 (.lst (u'.map V.int))) a2 (.tup (u'.map V.int))) a2 u' := upd_same
      generalize upd (upd H2 p3 (.lst (u'.map V.int))) a2 (.tup (u'.map V.int)) = H3 at s3 ha2
      have eu : u' = insA x u := insA_of hStay.ok.1 hxu hp hle'
      subst eu
      have hok2 := hStay.ok.ins hxu hxm.1 hxm.2
      have hlen := len_insA x u
      have s4 : Same H H3 := ((s'.trans s1).trans s2).trans s3
      refine ⟨_, rfl, a2, _, rfl, .inr (SqT.of ha2), _, rfl, _, _, rfl, rfl, _, rfl, ?_⟩
      rw [List.length_map]
      by_cases hfull : n < (insA x u).length
      · rw [decide_eq_true (show ((n : Int) < (((insA x u).length : Nat) : Int)) by omega)]
        refine iteT ⟨_, rfl, _, rfl, _, rfl, dget_read (htab.same s4) hok2 (by omega) ha2 ?_⟩
        refine ⟨a2, insA x u, _, rfl, ha2, by omega, fun r5 H5 s5 hr5 => ⟨r5, _, rfl, s4.trans s5, ?_⟩⟩
        rw [more]; unfold step; rw [if_neg hxu, if_pos hfull]; exact hr5
      · rw [decide_eq_false (show ¬ ((n : Int) < (((insA x u).length : Nat) : Int)) by omega)]
        refine iteF ⟨a2, _, rfl, s4, ?_⟩
        rw [more]; unfold step; rw [if_neg hxu, if_neg hfull]; exact ha2
    · rintro σ H' ⟨st, w, rfl, s', hst⟩
      rw [List.length_map, List.take_length] at hst
      exact ⟨_, rfl, k st H' s' hst⟩
theorem ok__law_taken (T : Txt P K mg c.CB c.CL c.C1 c.C2 c.C3 c.C4 f1 f2 f3 f4 t9 t6)  {f : Addr} {fd : FuncData} (F : Fun K "_law_taken" "_law_taken" s__law_taken f fd) : FnOk P w K mg base CX0 1 f fd ["_law_tastes", "_law_lot"] (sp__law_taken c) := by
  refine F.ok sc__law_taken (fun vs H Q E h => ?_) (fun cdv A outer s H vs Q E hr h => ?_)
  · obtain ⟨t, a, ras, ts, lot, rfl, ht, hras, hlt, hrl, ha, hla, k⟩ := h
    rfl
  · obtain ⟨t, a, ras, ts, lot, rfl, ht, hras, hlt, hrl, ha, hla, k⟩ := h
    refine ⟨_, (pss_cons (ps_asg (pe_tup (pa_cons (pe_callTy (call_listA (K := K) rfl) (by rfl) T.g_list (by decide +kernel) (pa_cons (pv 1) pa_nil)) (pa_cons (pe_lst pa_nil) pa_nil))) (pg_tupK (K := K) rfl rfl (pgs_cons (pg_name (i := 2) sc__law_taken.nd rfl (Or.inr rfl)) (pgs_cons (pg_name (i := 3) sc__law_taken.nd rfl (Or.inl rfl)) pgs_nil))))
    (pss_cons (ps_for PassesOwn.never rfl (pi_listK (K := K) rfl (pv 0)) (pg_name (i := 4) sc__law_taken.nd rfl (Or.inl rfl))
    (pss_cons (ps_set (i := 6) sc__law_taken.nd rfl (Or.inr rfl) (pe_slice sl_list (pe_lc (own := [("_law_one", 5)]) (g := (gName 5)) rfl sc__law_taken.nd (pi_listK (K := K) rfl (pv 4)) (blkOk_by (N := ["_law_tastes", "_law_lot", "_law_left", "_law_taken_here", "_law_ranking", "_law_one", "_law_best"]) (sc := defScope s__law_taken) (by decide +kernel)) (fun _ _ _ _ _ => (pg_name (i := 5) sc__law_taken.nd rfl (Or.inl rfl))) (fun _ _ _ _ _ => (pts_one (pt_cmpR (op_inK (K := K) rfl) (pv 5) (pv 2) (by rfl)))) (fun _ _ _ _ _ => (pv 5))) po_none (po_some pe_int)))
    (pss_cons (ps_set (i := 2) sc__law_taken.nd rfl (Or.inr rfl) (pe_lc (own := [("_law_one", 5)]) (g := (gName 5)) rfl sc__law_taken.nd (pi_listK (K := K) rfl (pv 2)) (blkOk_by (N := ["_law_tastes", "_law_lot", "_law_left", "_law_taken_here", "_law_ranking", "_law_one", "_law_best"]) (sc := defScope s__law_taken) (by decide +kernel)) (fun _ _ _ _ _ => (pg_name (i := 5) sc__law_taken.nd rfl (Or.inl rfl))) (fun _ _ _ _ _ => (pts_one (pt_cmpR (op_notInK (K := K) rfl) (pv 5) (pv 6) (by rfl)))) (fun _ _ _ _ _ => (pv 5))))
    (pss_one (ps_set (i := 3) sc__law_taken.nd rfl (Or.inl rfl) (pe_op op_cat (pv 3) (pv 6)))))))
    (pss_one (ps_ret (pv 3))))), ?_⟩
    have hlen := Paired.len' hras
    refine ⟨_, rfl, a, _, rfl, .inr (SqT.of ha), fun l hl => ⟨Nat.zero_le _, fun l2 hl2 => ⟨(by show 2 ≤ sizeLine; decide), fun t0 ht0 => ⟨t0, _, rfl, SqT.of upd_same, rfl, _, _, rfl, _, _, rfl, rfl, ?_⟩⟩⟩⟩
    have n1 : l2 ≠ l := fun e => by rw [e, upd_same] at hl2; cases hl2
    have s0 : Same H (upd (upd (upd H l (.lst (lot.map V.int))) l2 (.lst [])) t0 (.tup [.ref l, .ref l2])) := Same.put (Same.put (Same.new hl) hl2) ht0
    have q1 : ListI (upd (upd (upd H l (.lst (lot.map V.int))) l2 (.lst [])) t0 (.tup [.ref l, .ref l2])) l lot := Same.new ht0 _ _ (Same.new hl2 _ _ upd_same)
    have q2 : ListI (upd (upd (upd H l (.lst (lot.map V.int))) l2 (.lst [])) t0 (.tup [.ref l, .ref l2])) l2 [] := Same.new ht0 _ _ upd_same
    refine ⟨_, rfl, t, rfl, ⟨_, SqL.of (s0 _ _ ht)⟩, for_list (K := K) (a := t) (xs := ras.map V.ref) (fun i σ H' => ∃ (l l2 : Addr) (u v : Option V), σ = [some (.ref t), some (.ref a), some (.ref l), some (.ref l2), u, none, v] ∧ Same H H' ∧ ListI H' l (takeN (ts.take i) lot).1 ∧ ListI H' l2 (takeN (ts.take i) lot).2)
      ⟨l, l2, none, none, rfl, s0, q1, q2⟩ (fun i σ H' _ ⟨_, _, _, _, _, s', _⟩ => SqL.of (s' _ _ ht)) ?_ ?_⟩
    · rintro i v σ H' hv ⟨l, l2, u, w, rfl, s', h1, h2⟩
      rw [List.getElem?_map] at hv
      obtain ⟨ra, hra, rfl⟩ := Option.map_eq_some_iff.mp hv
      obtain ⟨r, hr', hri⟩ := Paired.at hras hra
      have hr10 := hrl r (List.mem_of_getElem? hr')
      have more : takeN (ts.take (i + 1)) lot = (res r (takeN (ts.take i) lot).1, (takeN (ts.take i) lot).2 ++ best r (takeN (ts.take i) lot).1) := take_fold _ _ hr'
      have b1 := takeN_le (ts.take i) lot []
      have b2 := takeN_len (ts.take i) lot []
      have b3 := best_len r (takeN (ts.take i) lot).1
      change (takeN (ts.take i) lot).1.length ≤ lot.length at b1
      change (takeN (ts.take i) lot).2.length ≤ 0 + (ts.take i).length at b2
      rw [List.length_take] at b2
      generalize (takeN (ts.take i) lot).1 = left at h1 more b1 b3
      generalize (takeN (ts.take i) lot).2 = tak at h2 more b2
      -- best
      refine ⟨_, rfl, ra, rfl, ⟨_, SqL.of (s' _ _ hri)⟩, fun D hD => lc_fmL r V.int (fun y => inV (.int y) (left.map V.int)) (IsIntR id) (stb_int _) (s' _ _ hri) hD (by omega) (fun y hy H2 s2 Rb kb => ?_) (fun y hy _ H2 s2 Rq kq => ?_) fun ys H2 s2 hys pp => ?_⟩
      · exact ⟨_, rfl, _, rfl, l, _, rfl, .inl (SqL.of (s2 _ _ h1)), rfl, flat_ints _, _, rfl, kb _ (Same.refl _)⟩
      · exact ⟨_, rfl, kq _ _ (Same.refl _) rfl⟩
      · rw [paired_int pp, map_id_int] at hys
        refine ⟨1, rfl, D, _, rfl, SqL.of hys, fun b hb => ?_⟩
        have eb : cutV ((r.filter fun y => inV (.int y) (left.map V.int)).map V.int) none (some 1) = (best r left).map V.int := by
          rw [cut1]
          unfold best
          rw [List.filter_congr (q := fun x => decide (x ∈ left)) fun y _ => inV_int y left]
        rw [eb]
        have s3 : Same H2 (upd H2 b (.lst ((best r left).map V.int))) := Same.new hb
        have hb1 : ListI (upd H2 b (.lst ((best r left).map V.int))) b (best r left) := upd_same
        generalize upd H2 b (.lst ((best r left).map V.int)) = H3 at s3 hb1
        -- left
        refine ⟨_, rfl, l, rfl, ⟨_, SqL.of (s3 _ _ (s2 _ _ h1))⟩, fun D2 hD2 => lc_fmL left V.int (fun y => !inV (.int y) ((best r left).map V.int)) (IsIntR id) (stb_int _) (s3 _ _ (s2 _ _ h1)) hD2 (by omega) (fun y hy H4 s4 Rb kb => ?_) (fun y hy _ H4 s4 Rq kq => ?_) fun zs H4 s4 hzs pz => ?_⟩
        · exact ⟨_, rfl, _, rfl, b, _, rfl, .inl (SqL.of (s4 _ _ hb1)), rfl, flat_ints _, _, rfl, kb _ (Same.refl _)⟩
        · exact ⟨_, rfl, kq _ _ (Same.refl _) rfl⟩
        · rw [paired_int pz, map_id_int] at hzs
          have el : (left.filter fun y => !inV (.int y) ((best r left).map V.int)) = res r left := by
            unfold res
            exact List.filter_congr fun y _ => by rw [inV_int]
          rw [el] at hzs
          have s5 := (s2.trans s3).trans s4
          refine ⟨_, rfl, _, rfl, l2, b, _, _, rfl, rfl, s5 _ _ h2, s4 _ _ hb1, ?_, fun q hq => ⟨D2, q, _, _, rfl, Same.put (s'.trans s5) hq, ?_, ?_⟩⟩
          · rw [List.length_map, List.length_map]
            exact small_k (by omega)
          · rw [more]; exact Same.new hq _ _ hzs
          · rw [more]
            show upd _ q _ q = _
            rw [upd_same, List.map_append]
    · rintro σ H' ⟨l, l2, u, w, rfl, s', h1, h2⟩
      rw [List.length_map, hlen, List.take_length] at h1 h2
      refine ⟨_, rfl, k l2 _ H' s' h2 ?_ ?_⟩
      · have q := takeN_ok lot ts lot [] (by simp)
        rw [takeN_fst] at q
        exact q
      · have b2 := takeN_len ts lot []
        change (takeN ts lot).2.length ≤ 0 + ts.length at b2
        omega
theorem ok__law_calm (T : Txt P K mg c.CB c.CL c.C1 c.C2 c.C3 c.C4 f1 f2 f3 f4 t9 t6) (d__law_less : Dn P w K mg base CX0 1 "_law_less" ["_law_lot", "_law_thing"] (sp__law_less c)) {f : Addr} {fd : FuncData} (F : Fun K "_law_calm" "_law_calm" s__law_calm f fd) : FnOk P w K mg base CX0 2 f fd ["_law_table_here", "_law_lot", "_law_many"] (sp__law_calm c) := by
  refine F.ok sc__law_calm (fun vs H Q E h => ?_) (fun cdv A outer s H vs Q E hr h => ?_)
  · obtain ⟨d, a, m, n, g, lot, rfl, htab, hg, ha, hok, hlen, hn, h0, h10, k⟩ := h
    rfl
  · obtain ⟨d, a, m, n, g, lot, rfl, htab, hg, ha, hok, hlen, hn, h0, h10, k⟩ := h
    refine ⟨_, (pss_cons (ps_for PassesOwn.never rfl (pi_range1 rfl T.g_range (pa_cons (pv 2) pa_nil)) (pg_name (i := 3) sc__law_calm.nd rfl (Or.inl rfl))
    (pss_one (ps_if (pt_cmpR (op_notInK (K := K) rfl) (pv 3) (pv 1) (by rfl))
    (pss_cons (ps_set (i := 4) sc__law_calm.nd rfl (Or.inl rfl) (pe_callTy (call_tupleA (K := K) rfl) (by rfl) T.g_tuple (by decide +kernel) (pa_cons (pe_callB cr_sortedTI (by rfl) T.g_sorted (by decide +kernel) (pa_cons (pe_op (op_catAK (K := K) rfl) (pv 1) (pe_tup (pa_cons (pv 3) pa_nil))) pa_nil)) pa_nil)))
    (pss_cons (ps_set (i := 5) sc__law_calm.nd rfl (Or.inl rfl) (pe_lst pa_nil))
    (pss_cons (ps_for PassesOwn.never rfl (pi_tupK (K := K) rfl (pv 4)) (pg_name (i := 6) sc__law_calm.nd rfl (Or.inl rfl))
    (pss_cons (ps_set (i := 7) sc__law_calm.nd rfl (Or.inl rfl) (pe_dget (hu_of hr) (pv 0) (pe_dn d__law_less (hr.mono (by decide)) pA0 (pa_cons (pv 4) (pa_cons (pv 6) pa_nil))) (fun _ _ => rfl)))
    (pss_one (ps_if (pt_cmpR (op_notInK (K := K) rfl) (pv 7) (pv 5) (by rfl))
    (pss_one (ps_expr (pe_bm PySem.F.plainAttrs_list PySem.F.slot_list_append PySem.F.type_list_append mt_append (pv 5) (pa_cons (pv 7) pa_nil))))
    pss_nil))))
    (pss_one (ps_if (pt_cmpR op_ne (pe_callB (call_lenA (K := K) rfl) (by rfl) T.g_len (by decide +kernel) (pa_cons (pv 5) pa_nil)) pe_int (nomark _))
    (pss_one (ps_ret pe_bl))
    pss_nil)))))
    pss_nil)))
    (pss_one (ps_ret pe_bl))), ?_⟩
    refine ⟨_, rfl, m, rfl, by omega, by omega, for_range (lo := 0) (n := m.toNat) (fun i σ H' => ∃ (v3 v4 v5 v6 v7 : Option V), σ = [some (.ref d), some (.ref a), some (.int m), v3, v4, v5, v6, v7] ∧ Same H H' ∧ ∀ x : Int, 0 ≤ x → x < (i : Int) → x ∉ lot → Two g (insA x lot))
      ⟨none, none, none, none, none, rfl, Same.refl H, fun x h1 h2 => absurd h2 (by omega)⟩ ?_ ?_⟩
    · rintro i σ H' hi ⟨v3, v4, v5, v6, v7, rfl, s', hall⟩
      have him : (0 : Int) + (i : Int) = (i : Int) := by omega
      rw [him]
      refine ⟨_, rfl, _, rfl, a, _, rfl, .inr (SqT.of (s' _ _ ha)), rfl, flat_ints _, _, rfl, ?_⟩
      rw [inV_int]
      by_cases hx : (i : Int) ∈ lot
      · rw [decide_eq_true hx]
        refine iteF ⟨_, _, _, _, _, rfl, s', fun x h1 h2 h3 => ?_⟩
        by_cases e : x = (i : Int)
        · exact absurd (e ▸ hx) h3
        · exact hall x h1 (by omega) h3
      · rw [decide_eq_false hx]
        have hok2 := hok.ins hx (by omega) (by omega : (i : Int) < m)
        have hl2 := len_insA (i : Int) lot
        refine iteT ⟨_, rfl, _, rfl, (by show 1 ≤ sizeLine; decide), fun q hq => ?_⟩
        have s1 : Same H' (upd H' q (.tup [V.int (i : Int)])) := Same.new hq
        refine cat_read (t := [(i : Int)]) (s1 _ _ (s' _ _ ha)) upd_same (by simp; omega) fun r2 H2 s2 hr2 => ?_
        refine ⟨r2, _, rfl, SqT.of hr2, fun u' p3 hp hle' hn3 => ⟨p3, _, rfl, .inl ⟨SqL.of upd_same, fun a2 ha2n => ?_⟩⟩⟩
        have s3 : Same H2 (upd (upd H2 p3 (.lst (u'.map V.int))) a2 (.tup (u'.map V.int))) := Same.put (Same.new hn3) ha2n
        have ha2 : TupI (upd (upd H2 p3 (.lst (u'.map V.int))) a2 (.tup (u'.map V.int))) a2 u' := upd_same
        generalize upd (upd H2 p3 (.lst (u'.map V.int))) a2 (.tup (u'.map V.int)) = H3 at s3 ha2
        have eu : u' = insA (i : Int) lot := insA_of hok.1 hx hp hle'
        subst eu
        have s4 : Same H H3 := ((s'.trans s1).trans s2).trans s3
        refine ⟨Nat.zero_le _, fun gl hgl => ?_⟩
        have s5 : Same H3 (upd H3 gl (.lst [])) := Same.new hgl
        have hgl0 : H3 gl = none := hgl
        refine ⟨_, rfl, a2, rfl, ⟨_, SqT.of (s5 _ _ ha2)⟩, for_tup (K := K) (a := a2) (xs := (insA (i : Int) lot).map V.int) (fun j σ H4 => ∃ (v6 v7 : Option V), σ = [some (.ref d), some (.ref a), some (.int m), some (.int (i : Int)), some (.ref a2), some (.ref gl), v6, v7] ∧ Same H3 H4 ∧ ListI H4 gl (((insA (i : Int) lot).take j).foldl (fun acc x => once acc (g (less (insA (i : Int) lot) x))) []))
          ⟨_, _, rfl, s5, upd_same⟩ (fun j σ H4 _ ⟨_, _, _, s6, _⟩ => SqT.of (s6 _ _ ha2)) ?_ ?_⟩
        · rintro j v σ H4 hv ⟨v6, v7, rfl, s6, hgl4⟩
          obtain ⟨x, hxj, rfl⟩ := map_int_at hv
          have hxw := List.mem_of_getElem? hxj
          have more := take_fold (fun acc x => once acc (g (less (insA (i : Int) lot) x))) [] hxj
          have hle : (((insA (i : Int) lot).take j).foldl (fun acc x => once acc (g (less (insA (i : Int) lot) x))) []).length ≤ j := by
            have : ∀ (l acc : List Int), (l.foldl (fun acc x => once acc (g (less (insA (i : Int) lot) x))) acc).length ≤ acc.length + l.length := by
              intro l
              induction l with
              | nil => intro acc; exact Nat.le_refl _
              | cons y l ih =>
                intro acc
                have := ih (once acc (g (less (insA (i : Int) lot) y)))
                have h2 : (once acc (g (less (insA (i : Int) lot) y))).length ≤ acc.length + 1 := by
                  unfold once
                  split
                  · omega
                  · simp
                show (l.foldl _ (once acc (g (less (insA (i : Int) lot) y)))).length ≤ _
                rw [List.length_cons]
                omega
            have q := this ((insA (i : Int) lot).take j) []
            rw [List.length_take, List.length_nil] at q
            omega
          generalize ((insA (i : Int) lot).take j).foldl (fun acc x => once acc (g (less (insA (i : Int) lot) x))) [] = acc at hgl4 more hle
          have hjl := (List.getElem?_eq_some_iff.mp hxj).1
          have ll := len_less hok2.1.nodup hxw
          refine ⟨_, rfl, _, rfl, _, rfl, a2, _, x, rfl, s6 _ _ ha2, by omega, fun r H5 s7 hr5 => ?_⟩
          refine dget_read ((htab.same s4).same (s6.trans s7)) (hok2.less x) (by omega) hr5 ?_
          refine ⟨_, rfl, _, rfl, gl, _, rfl, .inl (SqL.of (s7 _ _ hgl4)), rfl, flat_ints _, _, rfl, ?_⟩
          rw [inV_int]
          by_cases hin : g (less (insA (i : Int) lot) x) ∈ acc
          · rw [decide_eq_true hin]
            refine iteF ⟨_, _, rfl, s6.trans s7, ?_⟩
            rw [more]; unfold once; rw [if_pos hin]; exact s7 _ _ hgl4
          · rw [decide_eq_false hin]
            refine iteT ⟨_, rfl, .inl ⟨rfl, _, SqL.of (s7 _ _ hgl4)⟩, _, rfl, gl, _, _, rfl, rfl, s7 _ _ hgl4, ?_, _, _, rfl, Same.chg (s6.trans s7) hgl0, ?_⟩
            · rw [List.length_map]; exact small_lt (by omega)
            · rw [more]; unfold once; rw [if_neg hin]
              show upd _ gl _ gl = _
              rw [upd_same, List.map_append]
              rfl
        · rintro σ H4 ⟨v6, v7, rfl, s6, hgl4⟩
          rw [List.length_map, List.take_length] at hgl4
          refine ⟨_, rfl, gl, _, rfl, .inl (SqL.of hgl4), rfl, _, rfl, ?_⟩
          rw [decV, List.length_map]
          change ListI H4 gl (gone g (insA (i : Int) lot)) at hgl4
          change if (!decide ((((gone g (insA (i : Int) lot)).length : Nat) : Int) = 2)) = true then _ else _
          by_cases h2 : (gone g (insA (i : Int) lot)).length = 2
          · rw [decide_eq_true (show (((gone g (insA (i : Int) lot)).length : Nat) : Int) = 2 by omega)]
            refine iteF ⟨_, _, _, _, _, rfl, s4.trans s6, fun x h1 h3 h4 => ?_⟩
            by_cases e : x = (i : Int)
            · rw [e]
              refine two_of_gone (fun z hz => ?_) h2
              have ll := len_less hok2.1.nodup hz
              exact (mem_less.mp (hg _ (hok2.less z) (by omega))).1
            · exact hall x h1 (by omega) h4
          · rw [decide_eq_false (show ¬ (((gone g (insA (i : Int) lot)).length : Nat) : Int) = 2 by omega)]
            exact iteT (k false H4 (s4.trans s6) fun z => by cases z)
    · rintro σ H' ⟨v3, v4, v5, v6, v7, rfl, s', hall⟩
      exact k true H' s' fun _ x h1 h2 h3 => hall x h1 (by omega) h3
end
end Ws
end
section
set_option Elab.async false
set_option linter.all false
set_option maxRecDepth 100000
set_option maxHeartbeats 4000000
namespace Ws
open PySem PySem.Spec PyProof.Rows L2
set_option autoImplicit false
/-! K28: the draws. -/
theorem atI0 {α : Type} {xs : List α} {v : α} (h : xs[0]? = some v) : atI xs 0 = some v := atI_nat (j := 0) h
theorem atI1 {α : Type} {xs : List α} {v : α} (h : xs[1]? = some v) : atI xs 1 = some v := atI_nat (j := 1) h
theorem DealAt.free {H : Hp} {d l a : Addr} (h : DealAt H [d, l]) (ha : H a = none) : a ∉ [d, l] := fun m => by
  obtain ⟨d', l', s, ns, e, h1, h2, _⟩ := h
  cases e
  rcases List.mem_cons.mp m with q | m
  · rw [q, h1] at ha; cases ha
  · rw [List.mem_singleton.mp m, h2] at ha; cases ha
/-- what is no list isn't of the draws -/
theorem DealAt.out {H : Hp} {d l a : Addr} {o : HO} (h : DealAt H [d, l]) (ha : H a = some o) (no : ∀ xs, o ≠ .lst xs) : a ∉ [d, l] := fun m => by
  obtain ⟨d', l', s, ns, e, h1, h2, _⟩ := h
  cases e
  rcases List.mem_cons.mp m with q | m
  · rw [q, h1] at ha; cases ha; exact no _ rfl
  · rw [List.mem_singleton.mp m, h2] at ha; cases ha; exact no _ rfl
theorem DealAt.same {H H' : Hp} {D : List Addr} (h : DealAt H D) (s : Same H H') : DealAt H' D := by
  obtain ⟨d', l', z, ns, e, h1, h2, r⟩ := h
  exact ⟨d', l', z, ns, e, s _ _ h1, s _ _ h2, r⟩
theorem DealAt.fr {H H' : Hp} {d l : Addr} {M : List Addr} (h : DealAt H [d, l]) (s : Fr M H H') (hd : d ∉ M) (hl : l ∉ M) : DealAt H' [d, l] := by
  obtain ⟨d', l', z, ns, e, h1, h2, r⟩ := h
  cases e
  exact ⟨_, _, z, ns, rfl, s _ _ hd h1, s _ _ hl h2, r⟩
/-- behind a draw what is no list stands -/
theorem Fr.keep {H H' : Hp} {d l a : Addr} {o : HO} (s : Fr [d, l] H H') (h : DealAt H [d, l]) (ha : H a = some o) (no : ∀ xs, o ≠ .lst xs) : H' a = some o := s _ _ (h.out ha no) ha
theorem Fr.tup {H H' : Hp} {d l a : Addr} {xs : List V} (s : Fr [d, l] H H') (h : DealAt H [d, l]) (ha : H a = some (.tup xs)) : H' a = some (.tup xs) := s.keep h ha fun _ z => by cases z
theorem Seq.fr {H H' : Hp} {M : List Addr} {a : Addr} {xs : List V} (h : Seq H a xs) (s : Fr M H H') (n : a ∉ M) : Seq H' a xs := h.elim (fun h => .inl (s _ _ n h)) fun h => .inr (s _ _ n h)
theorem nn_dropLast {ns : List Int} (h : ∀ n ∈ ns, 0 ≤ n) : ∀ n ∈ ns.dropLast, 0 ≤ n := fun n m => h n (List.dropLast_subset ns m)
theorem eq_last {α : Type} (l : List α) : l = [] ∨ ∃ r x, l = r ++ [x] := list_last l
theorem getLast_at {α : Type} (r : List α) (x : α) : (r ++ [x])[(r ++ [x]).length - 1]? = some x := by
  rw [List.length_append, List.length_singleton, Nat.add_sub_cancel]
  simp
section
variable {P : Program} {w : World} {K : PySem.W.Frag} {mg : Str → Option Value} {base : Heap} {c : Cs} {f1 f2 f3 f4 : Addr} {t9 t6 : Tok}
theorem ok__law_any (T : Txt P K mg c.CB c.CL c.C1 c.C2 c.C3 c.C4 f1 f2 f3 f4 t9 t6)  {f : Addr} {fd : FuncData} (F : Fun K "_law_any" "_law_any" s__law_any f fd) : FnOk P w K mg base CX0 1 f fd ["_law_deal", "_law_bound"] (sp__law_any c) := by
  refine F.ok sc__law_any (fun vs H Q E h => ?_) (fun cdv A outer s H vs Q E hr h => ?_)
  · obtain ⟨d, l, b, rfl, hD, hb1, hb2, k⟩ := h
    rfl
  · obtain ⟨d, l, b, rfl, hD, hb1, hb2, k⟩ := h
    refine ⟨_, (pss_cons (ps_while PassesOwn.never (PW.pt (pw_and (pt_cmpR (op_neNil (un0 hr)) (pe_ix (ix_A (K := K) rfl) (pv 0) pe_int (fun _ _ => rfl)) (pe_lst pa_nil) (nomark _)) (pw_and1 (pt_cmpR op_eq (pe_ix (ix_A (K := K) rfl) (pe_ix (ix_A (K := K) rfl) (pv 0) pe_int (fun _ _ => rfl)) (pe_un un_neg pe_int) (fun _ _ => rfl)) pe_int (nomark _)))))
    (pss_one (ps_expr (pe_bm0 PySem.F.plainAttrs_list PySem.F.slot_list_pop PySem.F.type_list_pop mt_pop (pe_ix (ix_A (K := K) rfl) (pv 0) pe_int (fun _ _ => rfl))))))
    (pss_cons (ps_if (pt_cmpR (op_neNil (un0 hr)) (pe_ix (ix_A (K := K) rfl) (pv 0) pe_int (fun _ _ => rfl)) (pe_lst pa_nil) (nomark _))
    (pss_cons (ps_set (i := 2) sc__law_any.nd rfl (Or.inl rfl) (pe_callTy call_int1 (by rfl) T.g_int (by decide +kernel) (pa_cons (pe_bm0 PySem.F.plainAttrs_list PySem.F.slot_list_pop PySem.F.type_list_pop mt_pop (pe_ix (ix_A (K := K) rfl) (pv 0) pe_int (fun _ _ => rfl))) pa_nil)))
    (pss_cons (ps_expr (pe_bm PySem.F.plainAttrs_list PySem.F.slot_list_append PySem.F.type_list_append mt_append (pe_ix (ix_A (K := K) rfl) (pv 0) pe_int (fun _ _ => rfl)) (pa_cons (pe_op op_fdiv (pv 2) (pv 1)) pa_nil)))
    (pss_one (ps_ret (pe_op op_mod (pv 2) (pv 1))))))
    pss_nil)
    (pss_cons (ps_asg (pe_op op_mod (pe_callTy call_int1 (by rfl) T.g_int (by decide +kernel) (pa_cons (pe_op op_add (pe_op op_mul (pe_ix (ix_A (K := K) rfl) (pv 0) pe_int (fun _ _ => rfl)) pe_int) pe_int) pa_nil)) pe_int) (pg_sub (pv 0) pe_int set_list))
    (pss_one (ps_ret (pe_op op_mod (pe_callTy call_int1 (by rfl) T.g_int (by decide +kernel) (pa_cons (pe_op op_fdiv (pe_ix (ix_A (K := K) rfl) (pv 0) pe_int (fun _ _ => rfl)) pe_int) pa_nil)) (pv 1))))))), ?_⟩
    obtain ⟨d', l', s0, ns0, ed, hd0, hl0, hs0, hn0, hz0⟩ := hD
    cases ed
    have dl : d ≠ l := fun e => by rw [e, hl0] at hd0; cases ns0 <;> cases hd0
    refine ⟨fun z σ H' => ∃ (s : Int) (ns : List Int), σ = [some (.ref d), some (.int b), none] ∧ Fr [d, l] H H' ∧ H' d = some (.lst [.ref l, .int s]) ∧ H' l = some (.lst (ns.map V.int)) ∧ (0 ≤ s ∧ s < 1000000000000) ∧ (∀ n ∈ ns, 0 ≤ n) ∧ ns.length ≤ 1000 ∧ z = ns.length,
      ⟨_, s0, ns0, rfl, Fr.refl _ _, hd0, hl0, hs0, hn0, hz0, rfl⟩, ?_⟩
    rintro z σ H' ⟨s, ns, rfl, fr, hd, hl, hs, hn, hz, rfl⟩
    refine ⟨_, rfl, d, _, 0, _, rfl, rfl, .inl (SqL.of hd), atI0 rfl, Nat.zero_le _, fun e he => ⟨l, e, _, rfl, rfl, SqL.of (Same.new he _ _ hl), SqL.of upd_same, _, rfl, ?_⟩⟩
    have s1 : Same H' (upd H' e (.lst [])) := Same.new he
    generalize upd H' e (.lst []) = H1 at s1
    rcases eq_last ns with en | ⟨r, x, en⟩
    · subst en
      refine iteF (iteF ?_)
      refine ⟨_, rfl, d, _, 0, _, rfl, rfl, .inl (SqL.of (s1 _ _ hd)), atI0 rfl, Nat.zero_le _, fun e2 he2 => ⟨l, e2, _, rfl, rfl, SqL.of (Same.new he2 _ _ (s1 _ _ hl)), SqL.of upd_same, _, rfl, ?_⟩⟩
      have s2 : Same H' (upd H1 e2 (.lst [])) := s1.trans (Same.new he2)
      generalize upd H1 e2 (.lst []) = H2 at s2
      refine iteF ?_
      have hd2 := s2 _ _ hd
      refine ⟨_, rfl, d, _, 1, _, rfl, rfl, .inl (SqL.of hd2), atI1 rfl, _, _, rfl, rfl, .inl ⟨by omega, by omega⟩, _, _, rfl, rfl, .inl ⟨_, rfl, _, _, rfl, rfl, (by show (0 : Int) < 2147483647; decide), _, rfl, d, _, 1, 1, rfl, rfl, hd2, rfl, ?_⟩⟩
      have hz1 : 0 ≤ (s * 40693 + 71) % 2147483647 := Int.emod_nonneg _ (by decide)
      have hz2 : (s * 40693 + 71) % 2147483647 < 2147483647 := Int.emod_lt_of_pos _ (by decide)
      have hd3 : (upd H2 d (.lst ([V.ref l, V.int s].set 1 (V.int ((s * 40693 + 71) % 2147483647))))) d = some (.lst [.ref l, .int ((s * 40693 + 71) % 2147483647)]) := upd_same
      have fr3 : Fr [d, l] H (upd H2 d (.lst ([V.ref l, V.int s].set 1 (V.int ((s * 40693 + 71) % 2147483647))))) := Fr.chg (fr.same s2) (.inr (List.mem_cons_self))
      have hl3 : (upd H2 d (.lst ([V.ref l, V.int s].set 1 (V.int ((s * 40693 + 71) % 2147483647))))) l = some (.lst (([] : List Int).map V.int)) := by rw [upd_ne (Ne.symm dl)]; exact s2 _ _ hl
      refine ⟨_, rfl, d, _, 1, _, rfl, rfl, .inl (SqL.of hd3), atI1 rfl, _, _, rfl, rfl, ⟨by decide, by decide⟩, .inl ⟨_, rfl, _, rfl, _, _, rfl, rfl, (by omega), ?_⟩⟩
      exact k _ _ fr3 ⟨d, l, _, [], rfl, hd3, hl3, ⟨hz1, by omega⟩, hn, hz⟩ (Int.emod_nonneg _ (by omega)) (Int.emod_lt_of_pos _ (by omega))
    · have en2 : (!(ns.map V.int).isEmpty) = true := by rw [en]; simp
      have hlen : ns.length = r.length + 1 := by rw [en]; simp
      have hx : 0 ≤ x := hn x (by rw [en]; simp)
      have hr0 : ∀ n ∈ r, 0 ≤ n := fun n m => hn n (by rw [en]; exact List.mem_append_left _ m)
      have hl1 : H1 l = some (.lst (r.map V.int ++ [V.int x])) := by rw [s1 _ _ hl, en, List.map_append]; rfl
      have hd1 := s1 _ _ hd
      rw [en2]
      refine iteT ⟨_, rfl, d, _, 0, _, rfl, rfl, .inl (SqL.of hd1), atI0 rfl, _, rfl, l, _, -1, _, rfl, rfl, .inl (SqL.of hl1), atI_last _ _, rfl, _, rfl, ?_⟩
      rw [decV]
      by_cases hx0 : x = 0
      · rw [decide_eq_true hx0]
        refine iteT ⟨fun σ' H2 => ∃ (s : Int) (ns : List Int), σ' = [some (.ref d), some (.int b), none] ∧ Fr [d, l] H H2 ∧ H2 d = some (.lst [.ref l, .int s]) ∧ H2 l = some (.lst (ns.map V.int)) ∧ (0 ≤ s ∧ s < 1000000000000) ∧ (∀ n ∈ ns, 0 ≤ n) ∧ ns.length ≤ 1000 ∧ ns.length = r.length, fun σ' H2 ⟨s', ns', e1, e2, e3, e4, e5, e6, e7, e8⟩ => ⟨ns'.length, by omega, s', ns', e1, e2, e3, e4, e5, e6, e7, rfl⟩, ?_⟩
        refine ⟨_, rfl, d, _, 0, _, rfl, rfl, .inl (SqL.of hd1), atI0 rfl, .inl ⟨rfl, _, SqL.of hl1⟩, l, _, _, rfl, rfl, hl1, getLast_at _ _, s, r, rfl, Fr.chg (fr.same s1) (.inr (by simp)), ?_, ?_, hs, hr0, by omega, rfl⟩
        · rw [upd_ne dl]; exact hd1
        · rw [upd_same, List.dropLast_concat]
      · rw [decide_eq_false hx0]
        refine iteF ?_
        refine ⟨_, rfl, d, _, 0, _, rfl, rfl, .inl (SqL.of hd1), atI0 rfl, Nat.zero_le _, fun e2 he2 => ⟨l, e2, _, rfl, rfl, SqL.of (Same.new he2 _ _ hl1), SqL.of upd_same, _, rfl, ?_⟩⟩
        have s2 : Same H1 (upd H1 e2 (.lst [])) := Same.new he2
        generalize upd H1 e2 (.lst []) = H2 at s2
        have hd2 := s2 _ _ hd1
        have hl2 := s2 _ _ hl1
        rw [show (!(r.map V.int ++ [V.int x]).isEmpty) = true by simp]
        refine iteT ?_
        refine ⟨_, rfl, d, _, 0, _, rfl, rfl, .inl (SqL.of hd2), atI0 rfl, .inl ⟨rfl, _, SqL.of hl2⟩, l, _, _, rfl, rfl, hl2, getLast_at _ _, .inl ⟨_, rfl, ?_⟩⟩
        have hd3 : (upd H2 l (.lst (r.map V.int ++ [V.int x]).dropLast)) d = some (.lst [.ref l, .int s]) := by rw [upd_ne dl]; exact hd2
        have hl3 : (upd H2 l (.lst (r.map V.int ++ [V.int x]).dropLast)) l = some (.lst (r.map V.int)) := by rw [upd_same, List.dropLast_concat]
        refine ⟨_, rfl, d, _, 0, _, rfl, rfl, .inl (SqL.of hd3), atI0 rfl, .inl ⟨rfl, _, SqL.of hl3⟩, _, rfl, _, rfl, _, _, rfl, rfl, ⟨by omega, by omega⟩, l, _, _, rfl, rfl, hl3, ?_, ?_⟩
        · rw [List.length_map]; exact small_lt (by omega)
        refine ⟨_, rfl, _, rfl, _, _, rfl, rfl, (by omega), ?_⟩
        have hq : 0 ≤ x / b := Int.ediv_nonneg hx (by omega)
        refine k _ _ ?_ ⟨d, l, s, r ++ [x / b], rfl, ?_, ?_, hs, fun n m => ?_, ?_⟩ (Int.emod_nonneg _ (by omega)) (Int.emod_lt_of_pos _ (by omega))
        · exact Fr.chg (Fr.chg (fr.same (s1.trans s2)) (.inr (by simp))) (.inr (by simp))
        · rw [upd_ne dl]; exact hd3
        · rw [upd_same, List.map_append]; rfl
        · rcases List.mem_append.mp m with m | m
          · exact hr0 n m
          · rw [List.mem_singleton.mp m]; exact hq
        · rw [List.length_append, List.length_singleton]; omega
end
end Ws
end
section
set_option Elab.async false
set_option linter.all false
set_option maxRecDepth 100000
set_option maxHeartbeats 4000000
namespace Ws
open PySem PySem.Spec PyProof.Rows L2
set_option autoImplicit false
theorem rgV_is (m : Int) : rgV 0 m = (rng 0 m).map V.int := by
  unfold rgV rng
  rw [List.map_map]
  rfl
theorem cutN (l : List Int) (n : Nat) : cutV (l.map V.int) none (some (n : Int)) = (l.take n).map V.int := by
  unfold cutV
  rw [HT.sIx_none]
  have : HT.sIx (l.map V.int).length (l.map V.int).length (some (n : Int)) = min n (l.map V.int).length := HT.sIx_nat _ _ n
  rw [this]
  show ((l.map V.int).drop 0).take (min n (l.map V.int).length - 0) = _
  rw [List.drop_zero, Nat.sub_zero, List.map_take, List.take_eq_take_iff]
  omega
theorem seqI_nat {n k : Nat} (h : n < k) : seqIndex? (n : Int) k = some n := by
  unfold seqIndex?
  simp
  omega
theorem erase_map {α β : Type} (f : α → β) : ∀ (l : List α) (n : Nat), (l.map f).eraseIdx n = (l.eraseIdx n).map f
  | [], _ => by simp
  | x :: r, 0 => rfl
  | x :: r, n + 1 => by
    show f x :: (r.map f).eraseIdx n = f x :: (r.eraseIdx n).map f
    rw [erase_map f r n]
section
variable {P : Program} {w : World} {K : PySem.W.Frag} {mg : Str → Option Value} {base : Heap} {c : Cs} {f1 f2 f3 f4 : Addr} {t9 t6 : Tok}
theorem ok__law_of (T : Txt P K mg c.CB c.CL c.C1 c.C2 c.C3 c.C4 f1 f2 f3 f4 t9 t6) (d__law_any : Dn P w K mg base CX0 1 "_law_any" ["_law_deal", "_law_bound"] (sp__law_any c)) {f : Addr} {fd : FuncData} (F : Fun K "_law_of" "_law_of" s__law_of f fd) : FnOk P w K mg base CX0 2 f fd ["_law_deal", "_law_some"] (sp__law_of c) := by
  refine F.ok sc__law_of (fun vs H Q E h => ?_) (fun cdv A outer s H vs Q E hr h => ?_)
  · obtain ⟨d, l, a, xs, rfl, hD, hs, hn, h1, h2, k⟩ := h
    rfl
  · obtain ⟨d, l, a, xs, rfl, hD, hs, hn, h1, h2, k⟩ := h
    refine ⟨_, (pss_one (ps_ret (pe_ix (ix_A (K := K) rfl) (pv 1) (pe_dn d__law_any (hr.mono (by decide)) pA0 (pa_cons (pv 0) (pa_cons (pe_callB (call_lenA (K := K) rfl) (by rfl) T.g_len (by decide +kernel) (pa_cons (pv 1) pa_nil)) pa_nil))) (fun _ _ => rfl)))), ?_⟩
    refine ⟨_, rfl, _, rfl, _, rfl, a, xs, rfl, hs.sq, d, l, _, rfl, hD, by omega, by omega, fun r H' fr hD' h0 hr' => ?_⟩
    obtain ⟨n, rfl⟩ : ∃ n : Nat, r = (n : Int) := ⟨r.toNat, by omega⟩
    have hlt : n < xs.length := by omega
    have e : xs[n]? = some xs[n] := by simp [hlt]
    exact ⟨a, xs, _, xs[n], rfl, rfl, (hs.fr fr hn).sq, atI_nat e, k n xs[n] H' e fr hD'⟩
theorem ok__law_truth (T : Txt P K mg c.CB c.CL c.C1 c.C2 c.C3 c.C4 f1 f2 f3 f4 t9 t6)  {f : Addr} {fd : FuncData} (F : Fun K "_law_truth" "_law_truth" s__law_truth f fd) : FnOk P w K mg base CX0 1 f fd ["_law_value", "_law_due"] (sp__law_truth c) := by
  refine F.ok sc__law_truth (fun vs H Q E h => ?_) (fun cdv A outer s H vs Q E hr h => ?_)
  · obtain ⟨a, b, rfl, k⟩ := h
    rfl
  · obtain ⟨a, b, rfl, k⟩ := h
    refine ⟨_, (pss_one (ps_ret (pe_and (pe_callB call_isi (by rfl) T.g_isinstance (by decide +kernel) (pa_cons (pv 0) (pa_cons (pe_bltn (v := .ty "bool") (by rfl) T.g_bool (by decide +kernel) rfl) pa_nil))) (pe_one (pe_cmpR op_eq (pv 0) (pv 1) (nomark _)))))), ?_⟩
    refine ⟨_, rfl, _, _, _, _, _, rfl, .ty _, .base (.bl a), kit_ty (by decide +kernel : kitB "bool" "bool" = some true), _, rfl, ?_⟩
    refine iteT ⟨_, rfl, _, rfl, rfl, ?_⟩
    have e : decide (V.bl a = V.bl b) = (a == b) := by cases a <;> cases b <;> rfl
    show Q (.bl (decide (V.bl a = V.bl b))) H
    rw [e]
    exact k
theorem ok__law_order (T : Txt P K mg c.CB c.CL c.C1 c.C2 c.C3 c.C4 f1 f2 f3 f4 t9 t6) (d__law_any : Dn P w K mg base CX0 1 "_law_any" ["_law_deal", "_law_bound"] (sp__law_any c)) {f : Addr} {fd : FuncData} (F : Fun K "_law_order" "_law_order" s__law_order f fd) : FnOk P w K mg base CX0 2 f fd ["_law_deal", "_law_many"] (sp__law_order c) := by
  refine F.ok sc__law_order (fun vs H Q E h => ?_) (fun cdv A outer s H vs Q E hr h => ?_)
  · obtain ⟨d, l, m, rfl, hD, h0, h10, k⟩ := h
    rfl
  · obtain ⟨d, l, m, rfl, hD, h0, h10, k⟩ := h
    refine ⟨_, (pss_cons (ps_par (i := 2) (j := 3) (by rfl) sc__law_order.nd rfl rfl (by decide) rfl rfl (pa_cons (pe_listRg rfl rfl T.g_list (prg_1 rfl T.g_range (pv 1))) (pa_cons (pe_lst pa_nil) pa_nil)) (by rfl))
    (pss_cons (ps_for PassesOwn.never rfl (pi_range1 rfl T.g_range (pa_cons (pv 1) pa_nil)) (pg_name (i := 4) sc__law_order.nd rfl (Or.inl rfl))
    (pss_one (ps_expr (pe_bm PySem.F.plainAttrs_list PySem.F.slot_list_append PySem.F.type_list_append mt_append (pv 3) (pa_cons (pe_bm PySem.F.plainAttrs_list PySem.F.slot_list_pop PySem.F.type_list_pop mt_popAt (pv 2) (pa_cons (pe_dn d__law_any (hr.mono (by decide)) pA0 (pa_cons (pv 0) (pa_cons (pe_callB (call_lenA (K := K) rfl) (by rfl) T.g_len (by decide +kernel) (pa_cons (pv 2) pa_nil)) pa_nil))) pa_nil)) pa_nil)))))
    (pss_one (ps_ret (pv 3))))), ?_⟩
    refine ⟨_, rfl, m, rfl, RgOk.of_le (by omega) (by omega) (by omega) (by omega), fun lf hlf => ⟨Nat.zero_le _, fun od hod => ⟨_, _, rfl, ?_⟩⟩⟩
    have n1 : od ≠ lf := fun e => by rw [e, upd_same] at hod; cases hod
    have hod0 : H od = none := by rw [upd_ne n1] at hod; exact hod
    have s0 : Same H (upd (upd H lf (.lst (rgV 0 m))) od (.lst [])) := Same.put (Same.new hlf) hod
    have q1 : (upd (upd H lf (.lst (rgV 0 m))) od (.lst [])) lf = some (.lst ((rng 0 m).map V.int)) := by rw [upd_ne n1.symm, upd_same, rgV_is]
    have q2 : (upd (upd H lf (.lst (rgV 0 m))) od (.lst [])) od = some (.lst (([] : List Int).map V.int)) := upd_same
    have olf := hD.free hlf
    have ood := hD.free hod0
    refine ⟨_, rfl, m, rfl, by omega, by omega, for_range (lo := 0) (n := m.toNat) (fun i σ H' => ∃ (v : Option V) (ls os : List Int), σ = [some (.ref d), some (.int m), some (.ref lf), some (.ref od), v] ∧ Fr [d, l] H H' ∧ DealAt H' [d, l] ∧ ListI H' lf ls ∧ ListI H' od os ∧ ls.length = m.toNat - i ∧ os.length = i ∧ ∀ x, 0 ≤ x → x < m → x ∈ ls ∨ x ∈ os)
      ⟨none, rng 0 m, [], rfl, Same.fr _ s0, hD.same s0, q1, q2, by rw [len_rng]; omega, rfl, fun x h1 h2 => .inl (mem_rng.mpr ⟨h1, h2⟩)⟩ ?_ ?_⟩
    · rintro i σ H' hi ⟨v, ls, os, rfl, fr, hD', h1, h2, h3, h4, h5⟩
      refine ⟨_, rfl, .inl ⟨rfl, _, SqL.of h2⟩, _, rfl, .inl ⟨rfl, _, SqL.of h1⟩, _, rfl, _, rfl, lf, _, rfl, .inl (SqL.of h1), d, l, _, rfl, hD', by rw [List.length_map]; omega, by rw [List.length_map]; omega, fun r H2 fr2 hD2 hr0 hr1 => ?_⟩
      rw [List.length_map] at hr1
      obtain ⟨n, rfl⟩ : ∃ n : Nat, r = (n : Int) := ⟨r.toNat, by omega⟩
      have hn : n < ls.length := by omega
      have g1 := fr2 _ _ olf h1
      have g2 := fr2 _ _ ood h2
      have e1 : ls[n]? = some ls[n] := by simp [hn]
      refine ⟨lf, _, (n : Int), n, .int ls[n], rfl, rfl, g1, by omega, by omega, ?_, map_at e1, ?_⟩
      · rw [List.length_map]
        exact seqI_nat hn
      · refine ⟨od, _, _, rfl, rfl, by rw [upd_ne n1]; exact g2, by rw [List.length_map]; exact small_lt (by omega), ?_⟩
        refine ⟨_, ls.eraseIdx n, os ++ [ls[n]], rfl, Fr.chg (Fr.chg (fr.trans fr2) (.inl hlf)) (.inl hod0), ?_, ?_, ?_, ?_, ?_, fun x h6 h7 => ?_⟩
        · obtain ⟨d', l', s, ns, e, a1, a2, a3⟩ := hD2
          cases e
          have nd : ∀ a ∈ [d, l], a ≠ lf ∧ a ≠ od := fun a ha => ⟨fun e => olf (e ▸ ha), fun e => ood (e ▸ ha)⟩
          exact ⟨_, _, s, ns, rfl, by rw [upd_ne (nd _ (by simp)).2, upd_ne (nd _ (by simp)).1]; exact a1, by rw [upd_ne (nd _ (by simp)).2, upd_ne (nd _ (by simp)).1]; exact a2, a3⟩
        · show upd _ od _ lf = _
          rw [upd_ne n1.symm, upd_same, erase_map]
        · show upd _ od _ od = _
          rw [upd_same, List.map_append]; rfl
        · rw [List.length_eraseIdx, if_pos hn]; omega
        · simp [h4]
        · rcases h5 x h6 h7 with q | q
          · by_cases ex : x = ls[n]
            · exact .inr (by rw [ex]; simp)
            · refine .inl ?_
              rw [List.mem_eraseIdx_iff_getElem?]
              obtain ⟨j, hj⟩ := List.mem_iff_getElem?.mp q
              refine ⟨j, fun e => ?_, hj⟩
              rw [e, e1] at hj
              exact ex (Option.some.inj hj).symm
          · exact .inr (List.mem_append_left _ q)
    · rintro σ H' ⟨v, ls, os, rfl, fr, hD', h1, h2, h3, h4, h5⟩
      have e : ls = [] := List.length_eq_zero_iff.mp (by omega)
      subst e
      refine ⟨_, rfl, k od os H' fr hD' hod0 h2 (by omega) fun x h6 h7 => ?_⟩
      rcases h5 x h6 h7 with q | q
      · cases q
      · exact q
theorem ok__law_draw (T : Txt P K mg c.CB c.CL c.C1 c.C2 c.C3 c.C4 f1 f2 f3 f4 t9 t6)  {f : Addr} {fd : FuncData} (F : Fun K "_law_draw" "_law_draw" s__law_draw f fd) : FnOk P w K mg base CX0 1 f fd ["_law_script", "_law_salt"] (sp__law_draw K c) := by
  refine F.ok sc__law_draw (fun vs H Q E h => ?_) (fun cdv A outer s H vs Q E hr h => ?_)
  · obtain ⟨a, ns, z, rfl, ha, hn, h0, h1, k⟩ := h
    rfl
  · obtain ⟨a, ns, z, rfl, ha, hn, h0, h1, k⟩ := h
    refine ⟨_, (pss_cons (ps_setLc (i := 3) (own := [("_law_cell", 2)]) (g := (gName 2)) (tt := tYes) rfl sc__law_draw.nd rfl rfl (sw_true rfl rfl rfl (by decide +kernel)) (pi_listK (K := K) rfl (pe_slice sl_list (pv 0) po_none (po_some pe_int))) (blkOk_by (N := ["_law_script", "_law_salt", "_law_cell", "_law_cells", "_law_blend"]) (sc := defScope s__law_draw) (by decide +kernel)) (fun _ _ _ _ _ => (pg_name (i := 2) sc__law_draw.nd rfl (Or.inl rfl))) (fun _ _ _ _ _ => pts_nil) (fun _ _ _ _ _ => (pe_callB call_abs (by rfl) T.g_abs (by decide +kernel) (pa_cons (pe_callTy call_int1 (by rfl) T.g_int (by decide +kernel) (pa_cons (pv 2) pa_nil)) pa_nil))))
    (pss_cons (ps_set (i := 4) sc__law_draw.nd rfl (Or.inl rfl) (pe_op op_add pe_int (pe_op op_mul pe_int (pv 1))))
    (pss_cons (ps_for PassesOwn.never rfl (pi_listK (K := K) rfl (pv 3)) (pg_name (i := 2) sc__law_draw.nd rfl (Or.inl rfl))
    (pss_one (ps_set (i := 4) sc__law_draw.nd rfl (Or.inl rfl) (pe_op op_mod (pe_callTy call_int1 (by rfl) T.g_int (by decide +kernel) (pa_cons (pe_op op_add (pe_op op_add (pe_op op_mul (pv 4) pe_int) (pe_op op_mod (pv 2) pe_int)) pe_int) pa_nil)) pe_int))))
    (pss_one (ps_ret (pe_lst (pa_cons (pe_revL (pe_lc (own := [("_law_cell", 2)]) (g := (gName 2)) rfl sc__law_draw.nd (pi_listK (K := K) rfl (pv 3)) (blkOk_by (N := ["_law_script", "_law_salt", "_law_cell", "_law_cells", "_law_blend"]) (sc := defScope s__law_draw) (by decide +kernel)) (fun _ _ _ _ _ => (pg_name (i := 2) sc__law_draw.nd rfl (Or.inl rfl))) (fun _ _ _ _ _ => (pts_one (pt_cmpR op_ge (pv 2) (pe_op op_pow pe_int pe_int) (nomark _)))) (fun _ _ _ _ _ => (pv 2)))) (pa_cons (pv 4) pa_nil)))))))), ?_⟩
    refine ⟨_, rfl, 48, rfl, a, _, rfl, ha, fun c1 hc1 => ⟨c1, rfl, ⟨_, SqL.of upd_same⟩, fun D hD => ?_⟩⟩
    have s1 : Same H (upd H c1 (.lst (cutV (ns.map V.int) none (some 48)))) := Same.new hc1
    have q1 : (upd H c1 (.lst (cutV (ns.map V.int) none (some 48)))) c1 = some (.lst ((ns.take 48).map V.int)) := by rw [upd_same]; exact congrArg (fun x => some (HO.lst x)) (cutN ns 48)
    refine lc_fmL (ns.take 48) V.int (fun _ => true) (IsIntR fun i => if i < 0 then -i else i) (stb_int _) q1 hD (by rw [List.length_take]; omega) (fun y hy H' s' Rb kb => kb _ (Same.refl _)) (fun y hy _ H' s' Rq kq => ?_) fun ys H' s' hys pp => ?_
    · exact ⟨_, rfl, .inl ⟨_, rfl, _, rfl, kq _ _ (Same.refl _) rfl⟩⟩
    · rw [filter_tt] at pp
      rw [paired_int pp] at hys
      have s2 : Same H H' := s1.trans s'
      have hcl : ((ns.take 48).map fun i => if i < 0 then -i else i).length ≤ 48 := by rw [List.length_map, List.length_take]; omega
      have hcn : ∀ x ∈ ((ns.take 48).map fun i => if i < 0 then -i else i), 0 ≤ x := fun x hx => by
        obtain ⟨y, _, rfl⟩ := List.mem_map.mp hx
        split <;> omega
      generalize ((ns.take 48).map fun i => if i < 0 then -i else i) = cs at hys hcl hcn
      refine ⟨_, rfl, _, _, rfl, rfl, .inl ⟨by omega, by omega⟩, _, _, rfl, rfl, ?_⟩
      refine ⟨_, rfl, D, rfl, ⟨_, SqL.of hys⟩, for_list (K := K) (a := D) (xs := cs.map V.int) (fun i σ H2 => ∃ (v : Option V) (b : Int), σ = [some (.ref a), some (.int z), v, some (.ref D), some (.int b)] ∧ H2 = H' ∧ 0 ≤ b ∧ b < 1000000000000)
        ⟨none, 7919 + 104729 * z, rfl, rfl, by omega, by omega⟩ (fun i σ H2 _ ⟨_, _, _, e, _⟩ => SqL.of (by rw [e]; exact hys)) ?_ ?_⟩
      · rintro i v σ H2 hv ⟨w, b, rfl, rfl, hb0, hb1⟩
        obtain ⟨x, hx, rfl⟩ := map_int_at hv
        refine ⟨_, rfl, _, _, rfl, rfl, .inl ⟨by omega, by omega⟩, _, rfl, _, _, rfl, rfl, (by show (0 : Int) < 2147483549; decide), _, _, rfl, rfl, _, _, rfl, rfl, .inl ⟨_, rfl, _, _, rfl, rfl, (by show (0 : Int) < 2147483647; decide), ?_⟩⟩
        refine ⟨_, _, rfl, rfl, Int.emod_nonneg _ (by decide), ?_⟩
        have := Int.emod_lt_of_pos (b * 48271 + x % 2147483549 + 11) (show (0 : Int) < 2147483647 by decide)
        show (b * 48271 + x % 2147483549 + 11) % 2147483647 < _
        omega
      · rintro σ H2 ⟨w, b, rfl, rfl, hb0, hb1⟩
        refine ⟨_, rfl, D, rfl, ⟨_, SqL.of hys⟩, fun D2 hD2 => ?_⟩
        refine lc_fmL cs V.int (fun y => decide ((10 : Int) ^ (18 : Int).toNat ≤ y)) (IsIntR id) (stb_int _) hys hD2 (by omega) (fun y hy H3 s3 Rb kb => ?_) (fun y hy _ H3 s3 Rq kq => ?_) fun zs H3 s3 hzs pz => ?_
        · exact ⟨_, rfl, _, _, rfl, rfl, ⟨by decide, by decide, by decide⟩, _, _, rfl, rfl, _, rfl, kb _ (Same.refl _)⟩
        · exact ⟨_, rfl, kq _ _ (Same.refl _) rfl⟩
        · rw [paired_int pz, map_id_int] at hzs
          have hfl := List.length_filter_le (fun y => decide ((10 : Int) ^ (18 : Int).toNat ≤ y)) cs
          have hfn : ∀ x ∈ cs.filter (fun y => decide ((10 : Int) ^ (18 : Int).toNat ≤ y)), 0 ≤ x := fun x hx => hcn x (List.mem_filter.mp hx).1
          generalize cs.filter (fun y => decide ((10 : Int) ^ (18 : Int).toNat ≤ y)) = fs at hzs hfl hfn
          refine ⟨D2, _, rfl, SqL.of hzs, fun l hl => ⟨_, rfl, (by show 2 ≤ sizeLine; decide), fun d hd => ?_⟩⟩
          have nd : d ≠ l := fun e => by rw [e, upd_same] at hd; cases hd
          have s4 : Same H (upd (upd H3 l (.lst (fs.map V.int).reverse)) d (.lst [.ref l, .int b])) := Same.put (Same.put (s2.trans s3) hl) hd
          refine k d l _ s4 (Same.free (Same.put (s2.trans s3) hl) hd) (Same.free (s2.trans s3) hl) ⟨d, l, b, fs.reverse, rfl, upd_same, ?_, ⟨hb0, hb1⟩, fun x hx => hfn x (List.mem_reverse.mp hx), by rw [List.length_reverse]; omega⟩
          rw [upd_ne nd.symm, upd_same, List.map_reverse]
end
end Ws
end
section
set_option Elab.async false
set_option linter.all false
set_option maxRecDepth 100000
set_option maxHeartbeats 4000000
namespace Ws
open PySem PySem.Spec PyProof.Rows L2
set_option autoImplicit false
theorem But.keep {x a : Addr} {H H' : Hp} {o u : HO} (s : But x H H') (hx : H x = some u) (ha : H a = some o) (d : o ≠ u) : H' a = some o := s a o (ne_of ha hx d) ha
theorem But.trans {x : Addr} {H H1 H2 : Hp} (a : But x H H1) (b : But x H1 H2) : But x H H2 := fun y o n e => b y o n (a y o n e)
theorem key_inj {s t : List Int} (h : s.map (Sum.inl : Int → Key) = t.map Sum.inl) : s = t := by
  induction s generalizing t with
  | nil => cases t with
    | nil => rfl
    | cons _ _ => cases h
  | cons x r ih => cases t with
    | nil => cases h
    | cons y q =>
      have h' : (Sum.inl x : Key) :: r.map Sum.inl = Sum.inl y :: q.map Sum.inl := h
      obtain ⟨e1, e2⟩ := List.cons.inj h'
      rw [Sum.inl.inj e1, ih e2]
theorem key_map (s : List Int) : (s.map (Sum.inl : Int → Key)).map kV = s.map V.int := by
  rw [List.map_map]; rfl
/-- all keys are lots of a size -/
def KeysOk (m : Int) (n : Nat) (kvs : List (List Key × V)) : Prop := ∀ p ∈ kvs, ∃ s, LotOk m s ∧ s.length = n ∧ p.1 = s.map Sum.inl
theorem keys_put {m : Int} {n : Nat} {kvs : List (List Key × V)} {s : List Int} {v : V} (h : KeysOk m n kvs) (hs : LotOk m s) (hl : s.length = n) : KeysOk m n (putK kvs (s.map Sum.inl) v) := fun p hp => by
  unfold putK at hp
  split at hp
  · obtain ⟨q, hq, e⟩ := List.mem_map.mp hp
    split at e
    · rename_i ek
      exact ⟨s, hs, hl, by rw [← e]; exact ek⟩
    · rw [← e]; exact h q hq
  · rcases List.mem_append.mp hp with q | q
    · exact h p q
    · rw [List.mem_singleton.mp q]; exact ⟨s, hs, hl, rfl⟩
theorem put_len (kvs : List (List Key × V)) (k : List Key) (v : V) : (putK kvs k v).length ≤ kvs.length + 1 := by
  unfold putK
  split
  · rw [List.length_map]; omega
  · simp
theorem put_len2 {kvs : List (List Key × V)} {k : List Key} {v w : V} (h : valV kvs k = some w) : (putK kvs k v).length = kvs.length := by
  unfold putK
  rw [valV_any, h]
  simp
section
variable {P : Program} {w : World} {K : PySem.W.Frag} {mg : Str → Option Value} {base : Heap} {c : Cs} {f1 f2 f3 f4 : Addr} {t9 t6 : Tok}
theorem ok__law_table (T : Txt P K mg c.CB c.CL c.C1 c.C2 c.C3 c.C4 f1 f2 f3 f4 t9 t6) (d__law_calm : Dn P w K mg base CX0 2 "_law_calm" ["_law_table_here", "_law_lot", "_law_many"] (sp__law_calm c)) (d__law_less : Dn P w K mg base CX0 1 "_law_less" ["_law_lot", "_law_thing"] (sp__law_less c)) (d__law_of : Dn P w K mg base CX0 2 "_law_of" ["_law_deal", "_law_some"] (sp__law_of c)) (d__law_rows : Dn P w K mg base CX0 1 "_law_rows" ["_law_many", "_law_size"] (sp__law_rows c)) (d__law_taken : Dn P w K mg base CX0 1 "_law_taken" ["_law_tastes", "_law_lot"] (sp__law_taken c)) {f : Addr} {fd : FuncData} (F : Fun K "_law_table" "_law_table" s__law_table f fd) : FnOk P w K mg base CX0 3 f fd ["_law_deal", "_law_tastes", "_law_many", "_law_turns"] (sp__law_table c) := by
  refine F.ok sc__law_table (fun vs H Q E h => ?_) (fun cdv A outer s H vs Q E hr h => ?_)
  · obtain ⟨d0, l0, t, m, n, ras, ts, rfl, hD, ht, hras, nt, nra, hrl, hrk, h1, h3, hkm, hm5, hn0, hn10, k⟩ := h
    rfl
  · obtain ⟨d0, l0, t, m, n, ras, ts, rfl, hD, ht, hras, nt, nra, hrl, hrk, h1, h3, hkm, hm5, hn0, hn10, k⟩ := h
    refine ⟨_, (pss_cons (ps_set (i := 4) sc__law_table.nd rfl (Or.inl rfl) pe_dnewT)
    (pss_cons (ps_for PassesOwn.never rfl (pi_listK (K := K) rfl (pe_dn d__law_rows (hr.mono (by decide)) pA0 (pa_cons (pv 2) (pa_cons (pe_op op_add (pe_callB (call_lenA (K := K) rfl) (by rfl) T.g_len (by decide +kernel) (pa_cons (pv 1) pa_nil)) pe_int) pa_nil)))) (pg_name (i := 5) sc__law_table.nd rfl (Or.inr rfl))
    (pss_one (ps_dput (hu_of hr) (pv 4) (pv 5) (pe_ix (ix_A (K := K) rfl) (pe_lc (own := [("_law_one", 6)]) (g := (gName 6)) rfl sc__law_table.nd (pi_tupK (K := K) rfl (pv 5)) (blkOk_by (N := ["_law_deal", "_law_tastes", "_law_many", "_law_turns", "_law_table_here", "_law_lot", "_law_one", "_law_lots", "_law_turn", "_law_elder"]) (sc := defScope s__law_table) (by decide +kernel)) (fun _ _ _ _ _ => (pg_name (i := 6) sc__law_table.nd rfl (Or.inl rfl))) (fun _ _ _ _ _ => (pts_one (pt_cmpR (op_notInK (K := K) rfl) (pv 6) (pe_dn d__law_taken (hr.mono (by decide)) pA0 (pa_cons (pv 1) (pa_cons (pv 5) pa_nil))) (by rfl)))) (fun _ _ _ _ _ => (pv 6))) pe_int (fun _ _ => rfl)) rfl)))
    (pss_cons (ps_set (i := 7) sc__law_table.nd rfl (Or.inl rfl) (pe_listKeys rfl T.g_list (pv 4)))
    (pss_cons (ps_for PassesOwn.never rfl (pi_range1 rfl T.g_range (pa_cons (pv 3) pa_nil)) (pg_name (i := 8) sc__law_table.nd rfl (Or.inl rfl))
    (pss_cons (ps_set (i := 5) sc__law_table.nd rfl (Or.inr rfl) (pe_dn d__law_of (hr.mono (by decide)) pA0 (pa_cons (pv 0) (pa_cons (pv 7) pa_nil))))
    (pss_cons (ps_set (i := 9) sc__law_table.nd rfl (Or.inl rfl) (pe_dget (hu_of hr) (pv 4) (pv 5) (fun _ _ => rfl)))
    (pss_cons (ps_dput (hu_of hr) (pv 4) (pv 5) (pe_dn d__law_of (hr.mono (by decide)) pA0 (pa_cons (pv 0) (pa_cons (pe_dn d__law_less (hr.mono (by decide)) pA0 (pa_cons (pv 5) (pa_cons (pv 9) pa_nil))) pa_nil))) rfl)
    (pss_one (ps_if (pt_not (pt_val (pe_dn d__law_calm (hr.mono (by decide)) pA0 (pa_cons (pv 4) (pa_cons (pv 5) (pa_cons (pv 2) pa_nil))))))
    (pss_one (ps_dput (hu_of hr) (pv 4) (pv 5) (pv 9) rfl))
    pss_nil))))))
    (pss_one (ps_ret (pv 4))))))), ?_⟩
    have htl := Paired.len' hras
    have gd := good0 hrk
    rw [← htl] at gd
    intro d hd
    have sd : Same H (upd H d (.dT [])) := Same.new hd
    refine ⟨_, rfl, _, rfl, t, _, rfl, .inl (SqL.of (sd _ _ ht)), _, _, rfl, rfl, m, ras.length + 1, by rw [List.length_map]; rfl, by omega, by omega, by omega, fun l H1 s1 hl hL => ?_⟩
    obtain ⟨as, hL1, hL2⟩ := hL
    obtain ⟨ps, e1, e2, hps⟩ := lots_zip hL2
    subst e1
    have hdt1 : H1 d = some (.dT []) := s1 _ _ upd_same
    have S1 : Same H H1 := sd.trans s1
    have hrw : ∀ p ∈ ps, LotOk m p.2 ∧ p.2.length = ras.length + 1 := fun p hp => mem_rows.mp (by rw [e2]; exact List.mem_map.mpr ⟨p, hp, rfl⟩)
    have hsm := (rows_small (show 0 ≤ m by omega) (show m ≤ 6 by omega) (show ras.length + 1 ≤ 5 by omega)).1
    have hpl : ps.length = (rows m (ras.length + 1)).length := by rw [e2, List.length_map]
    refine ⟨l, rfl, ⟨_, SqL.of hL1⟩, for_list (K := K) (a := l) (xs := ps.map fun p => V.ref p.1) (fun i σ H' => ∃ (v5 : Option V) (kvs : List (List Key × V)), σ = [some (.ref d0), some (.ref t), some (.int m), some (.int n), some (.ref d), v5, none, none, none, none] ∧ But d H1 H' ∧ H' d = some (.dT kvs) ∧ kvs.length ≤ i ∧ KeysOk m (ras.length + 1) kvs ∧ ∀ p ∈ ps.take i, valV kvs (p.2.map Sum.inl) = some (.int (g0 ts p.2)))
      ⟨none, [], rfl, But.refl _ _, hdt1, Nat.le_refl _, fun p hp => (by cases hp), fun p hp => (by rw [List.take_zero] at hp; cases hp)⟩ (fun i σ H' _ ⟨_, _, _, b, _⟩ => SqL.of (by rw [← fst_map]; exact b.keep hdt1 hL1 (by intro z; cases z))) ?_ ?_⟩
    · rintro i v σ H' hv ⟨v5, kvs, rfl, bt, hkv, hlen, hkeys, hval⟩
      rw [List.getElem?_map] at hv
      obtain ⟨p, hpi, rfl⟩ := Option.map_eq_some_iff.mp hv
      have hp := List.mem_of_getElem? hpi
      have hil := (List.getElem?_eq_some_iff.mp hpi).1
      obtain ⟨hok, hpl2⟩ := hrw p hp
      have hT : TupI H' p.1 p.2 := bt.keep hdt1 (hps p hp) (by intro z; cases z)
      have htt : H' t = some (.lst (ras.map V.ref)) := bt.keep hdt1 (S1 _ _ ht) (by intro z; cases z)
      have hrr : RksAt H' ras ts := Paired.map' hras fun a r e => bt.keep hdt1 (S1 _ _ e) (by intro z; cases z)
      have hres := resid_len hrk hok (by omega)
      have hr1 : (resid ts p.2).length = 1 := by omega
      obtain ⟨z, hz⟩ : ∃ z, resid ts p.2 = [z] := by
        match e : resid ts p.2, hr1 with
        | [z], _ => exact ⟨z, rfl⟩
      have hg : g0 ts p.2 = z := by unfold g0; rw [hz]; rfl
      refine ⟨_, rfl, p.1, rfl, ⟨_, SqT.of hT⟩, fun D hD2 => lc_fmT p.2 V.int (fun y => decide (y ∈ resid ts p.2)) (IsIntR id) (stb_int _) hT hD2 (by omega) (fun y hy H2 s2 Rb kb => ?_) (fun y hy _ H2 s2 Rq kq => ?_) fun ys H2 s2 hys pp => ?_⟩
      · refine ⟨_, rfl, _, rfl, _, rfl, t, p.1, ras, ts, p.2, rfl, s2 _ _ htt, Paired.map' hrr (fun a r e => s2 _ _ e), by omega, hrl, s2 _ _ hT, by omega, fun q xs H3 s3 hq hfil hxl => ⟨q, _, rfl, .inl (SqL.of hq), rfl, flat_ints _, _, rfl, ?_⟩⟩
        rw [inV_int]
        have e : (!decide (y ∈ xs)) = decide (y ∈ resid ts p.2) := by
          rw [← hfil, Bool.eq_iff_iff]
          simp [List.mem_filter, hy]
        rw [e]
        exact kb H3 s3
      · exact ⟨_, rfl, kq _ _ (Same.refl _) rfl⟩
      · rw [paired_int pp, map_id_int] at hys
        have ef : p.2.filter (fun y => decide (y ∈ resid ts p.2)) = [z] := by
          rw [hz]
          have hzm : z ∈ p.2 := resid_sub ts z (by rw [hz]; exact List.mem_singleton.mpr rfl)
          refine asc_ext (asc_filter _ hok.1) ⟨fun y h => (by cases h), trivial⟩ fun y => ?_
          rw [List.mem_filter]
          simp
          exact fun e => e ▸ hzm
        rw [ef] at hys
        have hkv2 := s2 _ _ hkv
        have hT2 := s2 _ _ hT
        refine ⟨D, _, 0, .int z, rfl, rfl, .inl (SqL.of hys), atI0 rfl, _, rfl, _, rfl, d, _, rfl, DPut.t hkv2 (k := p.2.map Sum.inl) (by rw [key_map]; exact hT2) (small_lt (by omega)), ?_⟩
        refine ⟨_, _, rfl, But.self (bt.same s2), upd_same, ?_, keys_put hkeys hok hpl2, fun q hq => ?_⟩
        · have := put_len kvs (p.2.map Sum.inl) (.int z)
          omega
        · rw [valV_put]
          rw [take_more1 hpi] at hq
          by_cases e : q.2.map (Sum.inl : Int → Key) = p.2.map Sum.inl
          · rw [if_pos e, key_inj e, hg]
          · rw [if_neg e]
            rcases List.mem_append.mp hq with q' | q'
            · exact hval q q'
            · rw [List.mem_singleton.mp q'] at e
              exact absurd rfl e
    · rintro σ H2 ⟨v5, kvs, rfl, bt, hkv, hlen, hkeys, hval⟩
      rw [List.length_map] at hlen hval
      rw [List.take_length] at hval
      have tab0 : ∀ s, LotOk m s → s.length = ras.length + 1 → valV kvs (s.map Sum.inl) = some (.int (g0 ts s)) := fun s hs hl => by
        have hm : s ∈ rows m (ras.length + 1) := mem_rows.mpr ⟨hs, hl⟩
        rw [e2] at hm
        obtain ⟨p, hp, e⟩ := List.mem_map.mp hm
        rw [← e]
        exact hval p hp
      have hne : kvs ≠ [] := fun e => by
        have q := tab0 (rng 0 ((ras.length + 1 : Nat) : Int)) ⟨asc_rng _ _, fun x hx => by have := mem_rng.mp hx; omega⟩ (by rw [len_rng]; omega)
        rw [e] at q
        cases q
      have S2 : Same H H2 := fun b o e => bt b o (ne_of_none e hd) (S1 b o e)
      refine ⟨_, rfl, d, kvs, rfl, hkv, fun ll bs hll hbs => ?_⟩
      have hbl : kvs.length = bs.length := Paired.len' hbs
      have hb1 : 1 ≤ bs.length := by
        rw [← hbl]
        exact Nat.one_le_iff_ne_zero.mpr fun e => hne (List.length_eq_zero_iff.mp e)
      have S3 : Same H2 (upd H2 ll (.lst (bs.map V.ref))) := Same.new hll
      have oll : ll ∉ [d0, l0] := (hD.same S2).free hll
      refine ⟨_, rfl, n, rfl, by omega, by omega, for_range (lo := 0) (n := n.toNat) (fun i σ H' => ∃ (v5 v8 v9 : Option V) (kvs : List (List Key × V)) (g : List Int → Int), σ = [some (.ref d0), some (.ref t), some (.int m), some (.int n), some (.ref d), v5, none, some (.ref ll), v8, v9] ∧ Fr [d0, l0] H H' ∧ DealAt H' [d0, l0] ∧ H' d = some (.dT kvs) ∧ kvs.length ≤ 1000 ∧
          (∀ s, LotOk m s → s.length = ras.length + 1 → valV kvs (s.map Sum.inl) = some (.int (g s))) ∧ Good m ras.length g ∧ H' ll = some (.lst (bs.map V.ref)) ∧ ∀ b ∈ bs, ∃ s, LotOk m s ∧ s.length = ras.length + 1 ∧ TupI H' b s)
        ⟨v5, none, none, kvs, g0 ts, rfl, Same.fr _ (S2.trans S3), hD.same (S2.trans S3), S3 _ _ hkv, by omega, tab0, gd, upd_same, fun b hb => ?_⟩ ?_ ?_⟩
      · obtain ⟨i, hi⟩ := List.mem_iff_getElem?.mp hb
        obtain ⟨p, hp1, hp2⟩ := Paired.at2 hbs hi
        obtain ⟨s, q1, q2, q3⟩ := hkeys p (List.mem_of_getElem? hp1)
        refine ⟨s, q1, q2, S3 _ _ ?_⟩
        rw [hp2, q3, key_map]
      · rintro i σ H3 hi ⟨v5, v8, v9, kvs, g, rfl, fr, hD3, hkv3, hkl, htab, G, hll3, hlots⟩
        refine ⟨_, rfl, _, rfl, d0, l0, ll, _, rfl, hD3, .inl hll3, oll, by rw [List.length_map]; exact hb1, by rw [List.length_map]; omega, fun j x H4 hx fr4 hD4 => ?_⟩
        rw [List.getElem?_map] at hx
        obtain ⟨b, hb, rfl⟩ := Option.map_eq_some_iff.mp hx
        obtain ⟨s, hs, hsl, hT3⟩ := hlots b (List.mem_of_getElem? hb)
        have hT4 : TupI H4 b s := fr4.tup hD3 hT3
        have hkv4 : H4 d = some (.dT kvs) := fr4.keep hD3 hkv3 (by intro xs z; cases z)
        have hgs := G.goes s hs hsl
        have dg : DGet H4 d (.ref b) (some (.int (g s))) := by rw [← htab s hs hsl]; exact DGet.t hkv4 (by rw [hT4, key_map])
        refine ⟨_, rfl, _, rfl, d, _, rfl, dg, ?_⟩
        refine ⟨_, rfl, _, rfl, _, rfl, b, s, g s, rfl, hT4, by omega, fun r H5 s5 hr5 => ?_⟩
        have ll5 := len_less hs.1.nodup hgs
        refine ⟨d0, l0, r, _, rfl, hD4.same s5, .inr hr5, (hD4.same s5).out hr5 (by intro xs z; cases z), by rw [List.length_map]; omega, by rw [List.length_map]; omega, fun j2 y H6 hy fr6 hD6 => ?_⟩
        obtain ⟨e, he, rfl⟩ := map_int_at hy
        have hes : e ∈ less s (g s) := List.mem_of_getElem? he
        have hkv6 : H6 d = some (.dT kvs) := fr6.keep (hD4.same s5) (s5 _ _ hkv4) (by intro xs z; cases z)
        have hT6 : TupI H6 b s := fr6.tup (hD4.same s5) (s5 _ _ hT4)
        have nd : d ∉ [d0, l0] := hD6.out hkv6 (by intro xs z; cases z)
        have hv := htab s hs hsl
        refine ⟨_, rfl, _, rfl, d, _, rfl, DPut.t hkv6 (k := s.map Sum.inl) (by rw [key_map]; exact hT6) (small_lt (by omega)), ?_⟩
        have fr7 : Fr [d0, l0] H (upd H6 d (.dT (putK kvs (s.map Sum.inl) (.int e)))) := Fr.chg ((fr.trans fr4).trans (Same.thenFr s5 fr6)) (.inl hd)
        have hD7 : DealAt (upd H6 d (.dT (putK kvs (s.map Sum.inl) (.int e)))) [d0, l0] := hD6.fr (M := [d]) (fun x o n q => by rw [upd_ne (fun z => n (by rw [z]; simp))]; exact q) (fun z => nd (by simp at z; rw [← z]; simp)) (fun z => nd (by simp at z; rw [← z]; simp))
        have hkv7 : (upd H6 d (.dT (putK kvs (s.map Sum.inl) (.int e)))) d = some (.dT (putK kvs (s.map Sum.inl) (.int e))) := upd_same
        have keep7 : ∀ a o, H3 a = some o → (∀ xs, o ≠ .lst xs) → o ≠ .dT kvs → (upd H6 d (.dT (putK kvs (s.map Sum.inl) (.int e)))) a = some o := fun a o q n1 n2 => by
          rw [upd_ne (ne_of q hkv3 n2)]
          exact fr6.keep (hD4.same s5) (s5 _ _ (fr4.keep hD3 q n1)) n1
        have hll7 : (upd H6 d (.dT (putK kvs (s.map Sum.inl) (.int e)))) ll = some (.lst (bs.map V.ref)) := by
          rw [upd_ne (ne_of hll3 hkv3 (by intro z; cases z))]
          exact fr6 _ _ oll (s5 _ _ (fr4 _ _ oll hll3))
        have tab7 : ∀ t, LotOk m t → t.length = ras.length + 1 → valV (putK kvs (s.map Sum.inl) (.int e)) (t.map Sum.inl) = some (.int (chg g s e t)) := fun t h1 h2 => by
          rw [valV_put]
          unfold chg
          by_cases q : t = s
          · rw [if_pos (by rw [q]), if_pos q]
          · rw [if_neg (fun z => q (key_inj z)), if_neg q]; exact htab t h1 h2
        have goes7 : ∀ t, LotOk m t → t.length = ras.length + 1 → chg g s e t ∈ t := fun t h1 h2 => by
          unfold chg
          split
          · rename_i q; rw [q]; exact (mem_less.mp hes).1
          · exact G.goes t h1 h2
        have hT7 : TupI (upd H6 d (.dT (putK kvs (s.map Sum.inl) (.int e)))) b s := keep7 _ _ hT3 (by intro xs z; cases z) (by intro z; cases z)
        have lots7 : ∀ b ∈ bs, ∃ s', LotOk m s' ∧ s'.length = ras.length + 1 ∧ TupI (upd H6 d (.dT (putK kvs (s.map Sum.inl) (.int e)))) b s' := fun b hb => by
          obtain ⟨s', q1, q2, q3⟩ := hlots b hb
          exact ⟨s', q1, q2, keep7 _ _ q3 (by intro xs z; cases z) (by intro z; cases z)⟩
        have pl7 := put_len2 (v := .int e) hv
        generalize upd H6 d (.dT (putK kvs (s.map Sum.inl) (.int e))) = H7 at fr7 hD7 hkv7 hll7 hT7 lots7
        refine ⟨_, rfl, _, rfl, _, rfl, d, b, m, ras.length, chg g s e, s, rfl, ⟨_, hkv7, tab7⟩, goes7, hT7, hs, hsl, by omega, by omega, by omega, fun bb H8 s8 hbb => ⟨bb, rfl, ?_⟩⟩
        cases bb with
        | true =>
          refine iteF ⟨_, _, _, _, chg g s e, rfl, fr7.same s8, hD7.same s8, s8 _ _ hkv7, by omega, tab7, good_chg G hs (mem_less.mp hes).1 (hbb rfl), s8 _ _ hll7, fun b hb => ?_⟩
          obtain ⟨s', q1, q2, q3⟩ := lots7 b hb
          exact ⟨s', q1, q2, s8 _ _ q3⟩
        | false =>
          have hkv8 := s8 _ _ hkv7
          have hT8 := s8 _ _ hT7
          have hv7 := tab7 s hs hsl
          refine iteT ⟨_, rfl, _, rfl, _, rfl, d, _, rfl, DPut.t hkv8 (k := s.map Sum.inl) (by rw [key_map]; exact hT8) (small_lt (by omega)), ?_⟩
          have nd8 : d ∉ [d0, l0] := (hD7.same s8).out hkv8 (by intro xs z; cases z)
          refine ⟨_, _, _, _, g, rfl, Fr.chg (fr7.same s8) (.inl hd), ?_, upd_same, ?_, fun t h1 h2 => ?_, G, ?_, fun b hb => ?_⟩
          · exact (hD7.same s8).fr (M := [d]) (fun x o n q => by rw [upd_ne (fun z => n (by rw [z]; simp))]; exact q) (fun z => nd8 (by simp at z; rw [← z]; simp)) (fun z => nd8 (by simp at z; rw [← z]; simp))
          · rw [put_len2 hv7]; omega
          · rw [valV_put]
            by_cases q : t = s
            · rw [if_pos (by rw [q]), q]
            · rw [if_neg (fun z => q (key_inj z)), tab7 t h1 h2]
              unfold chg
              rw [if_neg q]
          · rw [upd_ne (ne_of (s8 _ _ hll7) hkv8 (by intro z; cases z))]
            exact s8 _ _ hll7
          · obtain ⟨s', q1, q2, q3⟩ := lots7 b hb
            exact ⟨s', q1, q2, by show upd _ d _ b = _; rw [upd_ne (ne_of (s8 _ _ q3) hkv8 (by intro z; cases z))]; exact s8 _ _ q3⟩
      · rintro σ H3 ⟨v5, v8, v9, kvs, g, rfl, fr, hD3, hkv3, hkl, htab, G, _⟩
        exact ⟨_, rfl, k d g H3 fr hD3 hd ⟨kvs, hkv3, htab⟩ G⟩
end
end Ws
end
section
set_option Elab.async false
set_option linter.all false
set_option maxRecDepth 100000
set_option maxHeartbeats 4000000
namespace Ws
open PySem PySem.Spec PyProof.Rows L2
set_option autoImplicit false
theorem cutNf {α : Type} (f : α → V) (l : List α) (n : Nat) : cutV (l.map f) none (some (n : Int)) = (l.take n).map f := by
  unfold cutV
  rw [HT.sIx_none]
  have : HT.sIx (l.map f).length (l.map f).length (some (n : Int)) = min n (l.map f).length := HT.sIx_nat _ _ n
  rw [this]
  show ((l.map f).drop 0).take (min n (l.map f).length - 0) = _
  rw [List.drop_zero, Nat.sub_zero, List.map_take, List.take_eq_take_iff]
  omega
theorem Paired.take' {α β : Type} {F : α → β → Prop} : ∀ {l₁ : List α} {l₂ : List β} (n : Nat), Paired F l₁ l₂ → Paired F (l₁.take n) (l₂.take n)
  | _, _, 0, _ => by rw [List.take_zero, List.take_zero]; exact .nil
  | _, _, n + 1, .nil => .nil
  | _, _, n + 1, .cons r t => .cons r (Paired.take' n t)
theorem EntAt.keep {H H' : Hp} {m : Int} {t : Addr} {p : Nat × (List Int → Int)} (h : EntAt H m t p) (s : ∀ a o, H a = some o → (∀ xs, o ≠ .lst xs) → H' a = some o) : EntAt H' m t p := by
  obtain ⟨d, e, kvs, e2, q⟩ := h
  exact ⟨d, s _ _ e (by intro xs z; cases z), kvs, s _ _ e2 (by intro xs z; cases z), q⟩
theorem house_app {H : Hp} {m : Int} {l t : Addr} {ts : List Addr} {bs : Bks} {p : Nat × (List Int → Int)} (hl : H l = some (.lst (ts.map V.ref))) (h : Paired (EntAt H m) ts bs) (ht : EntAt H m t p) : HouseAt (upd H l (.lst (ts.map V.ref ++ [V.ref t]))) m l (bs ++ [p]) := by
  have k : ∀ a o, H a = some o → (∀ xs, o ≠ .lst xs) → (upd H l (.lst (ts.map V.ref ++ [V.ref t]))) a = some o := fun a o e n => by
    rw [upd_ne (ne_of e hl (n _))]
    exact e
  exact ⟨ts ++ [t], by rw [upd_same, List.map_append]; rfl, Paired.app (Paired.map' h fun a b e => e.keep k) (ht.keep k)⟩
theorem DealAt.upd {H : Hp} {d l x : Addr} {o : HO} (h : DealAt H [d, l]) (n : x ∉ [d, l]) : DealAt (upd H x o) [d, l] := h.fr (M := [x]) (fun a u na e => by rw [upd_ne (fun z => na (by rw [z]; simp))]; exact e) (fun z => n (by simp at z; rw [← z]; simp)) (fun z => n (by simp at z; rw [← z]; simp))
/-- a list of drawn rankings -/
theorem lc_ranks {H1 : Hp} {d l D : Addr} {σ : L2.St} {i : Nat} {te : TE} {Qd : Hp → Prop} {m : Int} (n : Nat) (hn : n ≤ 10) (hD : DealAt H1 [d, l]) (hF : H1 D = none)
    (ht : ∀ (j : Nat) H', Fr [d, l] H1 H' → DealAt H' [d, l] → ∀ Rq : VK, (∀ r xs H'', Fr [d, l] H' H'' → DealAt H'' [d, l] → H' r = none → ListI H'' r xs → xs.length ≤ 10 → (∀ x, 0 ≤ x → x < m → x ∈ xs) → Rq (.ref r) H'') → te ((wipe σ [i]).set i (some (.int (0 + (j : Int))))) H' Rq)
    (hd : ∀ ras ts H', Fr [d, l] H1 H' → DealAt H' [d, l] → H' D = some (.lst (ras.map V.ref)) → RksAt H' ras ts → ras.length = n → (∀ r ∈ ts, r.length ≤ 10) → Ranks m ts → (∀ a ∈ ras, H1 a = none) → Qd H') :
    ∃ W : Nat → Nat → Hp → Prop, (∃ m, W 0 m (upd H1 D (.lst []))) ∧ ∀ i' m H, W i' m H →
      ((Itr 0 n).stop i' H ∧ Qd H) ∨ ((Itr 0 n).go i' H ∧ ∃ Nx : Hp → Prop, (∀ H', Nx H' → ∃ m', m' < m ∧ W (i' + 1) m' H') ∧ ∀ x H', (Itr 0 n).yld i' H x H' → gName i x (wipe σ [i]) H' fun σ2 H2 => wipe σ2 [i] = wipe σ [i] ∧ tYes σ2 H2 fun b H3 =>
        if b = true then te σ2 H3 fun y H4 => ∃ acc, H4 D = some (.lst acc) ∧ acc.length < sizeLine ∧ Nx (upd H4 D (.lst (acc ++ [y]))) else Nx H3) := by
  have oD := hD.free hF
  refine lc_range (lo := 0) (n := n) (fun j H => Fr [d, l] H1 H ∧ DealAt H [d, l] ∧ ∃ ras ts, H D = some (.lst (ras.map V.ref)) ∧ RksAt H ras ts ∧ ras.length = j ∧ (∀ r ∈ ts, r.length ≤ 10) ∧ Ranks m ts ∧ ∀ a ∈ ras, H1 a = none)
    ⟨Fr.chg (Fr.refl _ _) (.inl hF), hD.upd oD, [], [], upd_same, .nil, rfl, fun r h => (by cases h), fun r h => (by cases h), fun a h => (by cases h)⟩ ?_ ?_
  · rintro j H hj ⟨fr, dl, ras, ts, h1, h2, h3, h4, h5, h6⟩
    refine ⟨by show ((σ.set i none).set i _).set i none = σ.set i none; rw [List.set_set, List.set_set], ?_⟩
    dsimp only [tYes]
    rw [if_pos rfl]
    refine ht j H fr dl _ fun r xs H2 fr2 dl2 hr hxs hl hall => ?_
    have hD2 := fr2 _ _ oD h1
    have hrn : H1 r = none := Fr.free fr (dl.free hr) hr
    have nr : r ≠ D := fun e => by rw [e, h1] at hr; cases hr
    have ho : ∀ a ∈ ras, a ∉ [d, l] ∧ a ≠ D := fun a ha => ⟨hD.free (h6 a ha), fun e => by
      obtain ⟨i', hi'⟩ := List.mem_iff_getElem?.mp ha
      obtain ⟨q, _, hq⟩ := Paired.at h2 hi'
      have hq' : H a = some (.lst (q.map V.int)) := hq
      rw [e, h1] at hq'
      have := Option.some.inj hq'
      injection this with e2
      have l1 := congrArg List.length e2
      cases ras with
      | nil => cases ha
      | cons b r' =>
        cases q with
        | nil => cases e2
        | cons z q' => cases e2⟩
    refine ⟨_, hD2, by rw [List.length_map]; exact small_lt (by omega), Fr.chg (fr.trans fr2) (.inl hF), dl2.upd oD, ras ++ [r], ts ++ [xs], by rw [upd_same, List.map_append]; rfl, ?_, by simp [h3], fun q hq => ?_, fun q hq => ?_, fun a ha => ?_⟩
    · refine Paired.app ?_ (by show upd _ D _ r = _; rw [upd_ne nr]; exact hxs)
      have : ∀ {l1 : List Addr} {l2 : List (List Int)}, RksAt H l1 l2 → (∀ a ∈ l1, a ∉ [d, l] ∧ a ≠ D) → RksAt (upd H2 D (.lst (ras.map V.ref ++ [V.ref r]))) l1 l2 := by
        intro l1 l2 p
        induction p with
        | nil => intro _; exact .nil
        | cons e t ih =>
          intro hh
          refine .cons ?_ (ih fun a ha => hh a (List.mem_cons_of_mem _ ha))
          have hx := hh _ List.mem_cons_self
          show upd _ D _ _ = _
          rw [upd_ne hx.2]
          exact fr2 _ _ hx.1 e
      exact this h2 ho
    · rcases List.mem_append.mp hq with q' | q'
      · exact h4 q q'
      · rw [List.mem_singleton.mp q']; exact hl
    · rcases List.mem_append.mp hq with q' | q'
      · exact h5 q q'
      · rw [List.mem_singleton.mp q']; exact hall
    · rcases List.mem_append.mp ha with q' | q'
      · exact h6 a q'
      · rw [List.mem_singleton.mp q']; exact hrn
  · rintro H ⟨fr, dl, ras, ts, h1, h2, h3, h4, h5, h6⟩
    exact hd ras ts H fr dl h1 h2 h3 h4 h5 h6
theorem rks_keep {H H' : Hp} {ras : List Addr} {ts : List (List Int)} (p : RksAt H ras ts) (s : ∀ a ∈ ras, ∀ o, H a = some o → H' a = some o) : RksAt H' ras ts := by
  induction p with
  | nil => exact .nil
  | cons e t ih => exact .cons (s _ List.mem_cons_self _ e) (ih fun a ha => s a (List.mem_cons_of_mem _ ha))
section
variable {P : Program} {w : World} {K : PySem.W.Frag} {mg : Str → Option Value} {base : Heap} {c : Cs} {f1 f2 f3 f4 : Addr} {t9 t6 : Tok}
theorem ok__law_house (T : Txt P K mg c.CB c.CL c.C1 c.C2 c.C3 c.C4 f1 f2 f3 f4 t9 t6) (d__law_any : Dn P w K mg base CX0 1 "_law_any" ["_law_deal", "_law_bound"] (sp__law_any c)) (d__law_of : Dn P w K mg base CX0 2 "_law_of" ["_law_deal", "_law_some"] (sp__law_of c)) (d__law_order : Dn P w K mg base CX0 2 "_law_order" ["_law_deal", "_law_many"] (sp__law_order c)) (d__law_table : Dn P w K mg base CX0 3 "_law_table" ["_law_deal", "_law_tastes", "_law_many", "_law_turns"] (sp__law_table c)) {f : Addr} {fd : FuncData} (F : Fun K "_law_house" "_law_house" s__law_house f fd) : FnOk P w K mg base CX0 4 f fd ["_law_deal", "_law_many"] (sp__law_house c) := by
  refine F.ok sc__law_house (fun vs H Q E h => ?_) (fun cdv A outer s H vs Q E hr h => ?_)
  · obtain ⟨d, l, m, rfl, hD, h3, h5, k⟩ := h
    rfl
  · obtain ⟨d, l, m, rfl, hD, h3, h5, k⟩ := h
    refine ⟨_, (pss_cons (ps_setLc (i := 3) (own := [("_law_turn", 2)]) (g := (gName 2)) (tt := tYes) rfl sc__law_house.nd rfl rfl (sw_true rfl rfl rfl (by decide +kernel)) (pi_range1 rfl T.g_range (pa_cons pe_int pa_nil)) (blkOk_by (N := ["_law_deal", "_law_many", "_law_turn", "_law_rankings", "_law_house_here", "_law_hand", "_law_places", "_law_kind", "_law_tastes"]) (sc := defScope s__law_house) (by decide +kernel)) (fun _ _ _ _ _ => (pg_name (i := 2) sc__law_house.nd rfl (Or.inl rfl))) (fun _ _ _ _ _ => pts_nil) (fun _ _ _ _ _ => (pe_dn d__law_order (hr.mono (by decide)) pA0 (pa_cons (pv 0) (pa_cons (pv 1) pa_nil)))))
    (pss_cons (ps_set (i := 4) sc__law_house.nd rfl (Or.inl rfl) (pe_lst pa_nil))
    (pss_cons (ps_for PassesOwn.never rfl (pi_range1 rfl T.g_range (pa_cons (pe_op op_add pe_int (pe_dn d__law_any (hr.mono (by decide)) pA0 (pa_cons (pv 0) (pa_cons pe_int pa_nil)))) pa_nil)) (pg_name (i := 5) sc__law_house.nd rfl (Or.inl rfl))
    (pss_cons (ps_set (i := 6) sc__law_house.nd rfl (Or.inl rfl) (pe_op op_add pe_int (pe_dn d__law_any (hr.mono (by decide)) pA0 (pa_cons (pv 0) (pa_cons (pe_callB (call_min2 rfl) (by rfl) T.g_min (by decide +kernel) (pa_cons pe_int (pa_cons (pe_op op_sub (pv 1) pe_int) pa_nil))) pa_nil)))))
    (pss_cons (ps_set (i := 7) sc__law_house.nd rfl (Or.inl rfl) (pe_dn d__law_any (hr.mono (by decide)) pA0 (pa_cons (pv 0) (pa_cons pe_int pa_nil))))
    (pss_one (ps_if (PW.pt (pw_and (pt_cmpR op_eq (pv 7) pe_int (nomark _)) (pw_and1 (pt_cmpR (op_neNil (un0 hr)) (pv 4) (pe_lst pa_nil) (nomark _)))))
    (pss_one (ps_expr (pe_bm PySem.F.plainAttrs_list PySem.F.slot_list_append PySem.F.type_list_append mt_append (pv 4) (pa_cons (pe_dn d__law_of (hr.mono (by decide)) pA0 (pa_cons (pv 0) (pa_cons (pv 4) pa_nil))) pa_nil))))
    (pss_one (ps_if (pt_cmpR op_eq (pv 7) pe_int (nomark _))
    (pss_one (ps_expr (pe_bm PySem.F.plainAttrs_list PySem.F.slot_list_append PySem.F.type_list_append mt_append (pv 4) (pa_cons (pe_tup (pa_cons (pv 6) (pa_cons (pe_dn d__law_table (hr.mono (by decide)) pA0 (pa_cons (pv 0) (pa_cons (pe_slice sl_list (pv 3) po_none (po_some (pv 6))) (pa_cons (pv 1) (pa_cons pe_int pa_nil))))) pa_nil))) pa_nil))))
    (pss_cons (ps_setLc (i := 8) (own := [("_law_turn", 2)]) (g := (gName 2)) (tt := tYes) rfl sc__law_house.nd rfl rfl (sw_true rfl rfl rfl (by decide +kernel)) (pi_range1 rfl T.g_range (pa_cons (pv 6) pa_nil)) (blkOk_by (N := ["_law_deal", "_law_many", "_law_turn", "_law_rankings", "_law_house_here", "_law_hand", "_law_places", "_law_kind", "_law_tastes"]) (sc := defScope s__law_house) (by decide +kernel)) (fun _ _ _ _ _ => (pg_name (i := 2) sc__law_house.nd rfl (Or.inl rfl))) (fun _ _ _ _ _ => pts_nil) (fun _ _ _ _ _ => (pe_dn d__law_order (hr.mono (by decide)) pA0 (pa_cons (pv 0) (pa_cons (pv 1) pa_nil)))))
    (pss_one (ps_expr (pe_bm PySem.F.plainAttrs_list PySem.F.slot_list_append PySem.F.type_list_append mt_append (pv 4) (pa_cons (pe_tup (pa_cons (pv 6) (pa_cons (pe_dn d__law_table (hr.mono (by decide)) pA0 (pa_cons (pv 0) (pa_cons (pv 8) (pa_cons (pv 1) (pa_cons (pe_dn d__law_any (hr.mono (by decide)) pA0 (pa_cons (pv 0) (pa_cons pe_int pa_nil))) pa_nil))))) pa_nil))) pa_nil))))))))))))
    (pss_one (ps_ret (pv 4)))))), ?_⟩
    refine ⟨3, rfl, by omega, by omega, fun D hF => lc_ranks (m := m) 3 (by decide) hD hF (fun j H' fr dl Rq kq => ?_) fun ras ts H1 fr1 hD1 hrk hrks hrl hr10 hrank hfresh => ?_⟩
    · exact ⟨_, rfl, _, rfl, d, l, m, rfl, dl, by omega, by omega, fun r xs H2 fr2 dl2 hr hxs hlen hall => kq r xs H2 fr2 dl2 hr hxs hlen hall⟩
    refine ⟨Nat.zero_le _, fun hl hhl => ?_⟩
    have oD : D ∉ [d, l] := hD.free hF
    have hhl0 : H hl = none := Fr.free fr1 (hD1.free hhl) hhl
    have ohl : hl ∉ [d, l] := hD1.free hhl
    have nD : D ≠ hl := ne_of_none hrk hhl
    have nra : ∀ a ∈ ras, a ≠ hl ∧ a ∉ [d, l] := fun a ha => by
      refine ⟨fun e => ?_, hD.free (hfresh a ha)⟩
      obtain ⟨i', hi'⟩ := List.mem_iff_getElem?.mp ha
      obtain ⟨q, _, hq⟩ := Paired.at hrks hi'
      rw [e] at hq
      have hq' : H1 hl = some (.lst (q.map V.int)) := hq
      rw [hhl] at hq'
      cases hq'
    have s1 : Same H1 (upd H1 hl (.lst [])) := Same.new hhl
    refine ⟨_, rfl, d, l, 4, rfl, hD1.same s1, by omega, by omega, fun r4 H2 fr2 hD2 h40 h41 => ?_⟩
    refine ⟨_, _, rfl, rfl, 1 + r4, rfl, by omega, by omega, for_range (lo := 0) (n := (1 + r4).toNat) (fun i σ H' => ∃ (v5 v6 v7 v8 : Option V) (bs : Bks), σ = [some (.ref d), some (.int m), none, some (.ref D), some (.ref hl), v5, v6, v7, v8] ∧ Fr [d, l] H H' ∧ DealAt H' [d, l] ∧ H' D = some (.lst (ras.map V.ref)) ∧ RksAt H' ras ts ∧ HouseAt H' m hl bs ∧ HBks m bs ∧ bs.length = i)
      ⟨none, none, none, none, [], rfl, (fr1.same s1).trans fr2, hD2, fr2 _ _ oD (s1 _ _ hrk), rks_keep hrks fun a ha o e => fr2 _ _ (nra a ha).2 (s1 _ _ e), ⟨[], fr2 _ _ ohl upd_same, .nil⟩, fun p hp => (by cases hp), rfl⟩ ?_ ?_⟩
    · rintro i σ H3 hi ⟨v5, v6, v7, v8, bs, rfl, fr3, hD3, hrk3, hrks3, ⟨us, hus, hent⟩, hbk, hbl⟩
      -- places
      refine ⟨_, rfl, _, rfl, _, _, rfl, rfl, 3, m - 1, rfl, d, l, (if m - 1 < 3 then m - 1 else 3), rfl, hD3, by split <;> omega, by split <;> omega, fun rp H4 fr4 hD4 hp0 hp1 => ?_⟩
      obtain ⟨n, hn⟩ : ∃ n : Nat, 1 + rp = (n : Int) := ⟨(1 + rp).toNat, by omega⟩
      have hn1 : 1 ≤ n ∧ n ≤ 3 ∧ (n : Int) < m := by split at hp1 <;> omega
      refine ⟨_, _, rfl, rfl, ?_⟩
      have hn' : (1 : Int) + rp = (n : Int) := hn
      -- kind
      refine ⟨_, rfl, d, l, 4, rfl, hD4, by omega, by omega, fun kd H5 fr5 hD5 hk0 hk1 => ?_⟩
      have fr35 : Fr [d, l] H3 H5 := fr4.trans fr5
      have hrk5 := fr35 _ _ oD hrk3
      have hrks5 : RksAt H5 ras ts := rks_keep hrks3 fun a ha o e => fr35 _ _ (nra a ha).2 e
      have hus5 := fr35 _ _ ohl hus
      have hent5 : Paired (EntAt H5 m) us bs := Paired.map' hent fun a b e => e.keep fun x o q nl => fr35.keep hD3 q nl
      have hul : us.length = i := by rw [Paired.len' hent, hbl]
      -- what one more entry leaves
      have more : ∀ (H6 : Hp) (t : Addr) (p : Nat × (List Int → Int)) (v8' : Option V), Fr [d, l] H5 H6 → DealAt H6 [d, l] → H6 hl = some (.lst (us.map V.ref)) → EntAt H6 m t p → (Good m p.1 p.2 ∧ 1 ≤ p.1 ∧ p.1 ≤ 3 ∧ (p.1 : Int) < m) →
          ∃ (v5 v6 v7 v8 : Option V) (bs : Bks), ([some (.ref d), some (.int m), none, some (.ref D), some (.ref hl), some (.int (0 + (i : Int))), some (.int (1 + rp)), some (.int kd), v8'] : L2.St) = [some (.ref d), some (.int m), none, some (.ref D), some (.ref hl), v5, v6, v7, v8] ∧ Fr [d, l] H (upd H6 hl (.lst (us.map V.ref ++ [V.ref t]))) ∧ DealAt (upd H6 hl (.lst (us.map V.ref ++ [V.ref t]))) [d, l] ∧ (upd H6 hl (.lst (us.map V.ref ++ [V.ref t]))) D = some (.lst (ras.map V.ref)) ∧ RksAt (upd H6 hl (.lst (us.map V.ref ++ [V.ref t]))) ras ts ∧ HouseAt (upd H6 hl (.lst (us.map V.ref ++ [V.ref t]))) m hl bs ∧ HBks m bs ∧ bs.length = i + 1 := fun H6 t p v8' fr6 hD6 hus6 ht hp => by
        refine ⟨_, _, _, _, bs ++ [p], rfl, Fr.chg (fr3.trans (fr35.trans fr6)) (.inl hhl0), hD6.upd ohl, by rw [upd_ne nD]; exact fr6 _ _ oD hrk5, rks_keep hrks5 fun a ha o e => by rw [upd_ne (nra a ha).1]; exact fr6 _ _ (nra a ha).2 e, house_app hus6 (Paired.map' hent5 fun a b e => e.keep fun x o q nl => fr6.keep hD5 q nl) ht, fun q hq => ?_, by simp [hbl]⟩
        rcases List.mem_append.mp hq with q' | q'
        · exact hbk q q'
        · rw [List.mem_singleton.mp q']; exact hp
      have hsz : (us.map V.ref).length < sizeLine := by rw [List.length_map]; exact small_lt (by omega)
      have spec : ∀ Q : Bool → Hp → Prop, (∀ b H6, Same H5 H6 → (b = true → us ≠ []) → Q b H6) → tAnd (tTest (tOp rEq (tVar 7) (tC (.int 0)))) (tTest (tOp (rNeNil K) (tVar 4) (tLst tNil))) [some (.ref d), some (.int m), none, some (.ref D), some (.ref hl), some (.int (0 + (i : Int))), some (.int (1 + rp)), some (.int kd), v8] H5 Q := fun Q kq => by
        refine ⟨_, rfl, rfl, _, rfl, ?_⟩
        rw [decV]
        by_cases e0 : kd = 0
        · rw [decide_eq_true e0]
          refine iteT ⟨_, rfl, Nat.zero_le _, fun e he => ⟨hl, e, _, rfl, rfl, SqL.of (Same.new he _ _ hus5), SqL.of upd_same, _, rfl, kq _ _ (Same.new he) fun hb e2 => ?_⟩⟩
          rw [e2] at hb
          cases hb
        · rw [decide_eq_false e0]
          exact iteF (kq _ _ (Same.refl _) fun z => by cases z)
      refine spec _ fun b H6 s6 hb => ?_
      have hus6 := s6 _ _ hus5
      have hD6 := hD5.same s6
      cases b with
      | true =>
        have hne := hb rfl
        refine iteT ⟨_, rfl, .inl ⟨rfl, _, SqL.of hus6⟩, _, rfl, _, rfl, d, l, hl, _, rfl, hD6, .inl hus6, ohl, ?_, by rw [List.length_map]; omega, fun j x H7 hx fr7 hD7 => ?_⟩
        · rw [List.length_map]
          cases us with
          | nil => exact absurd rfl hne
          | cons _ _ => exact Nat.succ_le_succ (Nat.zero_le _)
        · rw [List.getElem?_map] at hx
          obtain ⟨t, htj, rfl⟩ := Option.map_eq_some_iff.mp hx
          obtain ⟨p, hpj, hpe⟩ := Paired.at hent5 htj
          exact ⟨hl, _, _, rfl, rfl, fr7 _ _ ohl hus6, hsz, more H7 t p _ (Same.thenFr s6 fr7) hD7 (fr7 _ _ ohl hus6) (hpe.keep fun x o q nl => fr7.keep hD6 (s6 _ _ q) nl) (hbk p (List.mem_of_getElem? hpj))⟩
      | false =>
        refine iteF ⟨_, rfl, rfl, _, rfl, ?_⟩
        rw [decV]
        have hrk6 := s6 _ _ hrk5
        have hrks6 : RksAt H6 ras ts := Paired.map' hrks5 fun a r e => s6 _ _ e
        refine ite2 (fun _ => ?_) (fun _ => ?_)
        · -- the first places of another's tastes
          refine ⟨_, rfl, .inl ⟨rfl, _, SqL.of hus6⟩, _, rfl, _, rfl, _, rfl, _, rfl, _, rfl, D, _, rfl, SqL.of hrk6, fun q hq => ?_⟩
          have s7 : Same H6 (upd H6 q (.lst (cutV (ras.map V.ref) none (some (1 + rp))))) := Same.new hq
          have hq7 : (upd H6 q (.lst (cutV (ras.map V.ref) none (some (1 + rp))))) q = some (.lst ((ras.take n).map V.ref)) := by
            rw [upd_same, hn', cutNf]
          have oq : q ∉ [d, l] := hD6.free hq
          have hlt : (ras.take n).length = n := by rw [List.length_take, hrl]; omega
          refine ⟨_, rfl, d, l, q, m, 0, ras.take n, ts.take n, rfl, hD6.same s7, hq7, Paired.take' n (Paired.map' hrks6 fun a r e => s7 _ _ e), oq, fun a ha => (nra a (List.mem_of_mem_take ha)).2, fun r hr => hr10 r (List.mem_of_mem_take hr), fun r hr => hrank r (List.mem_of_mem_take hr), by omega, by omega, by omega, by omega, by omega, by omega, fun tb g H8 fr8 hD8 htb htab G => ?_⟩
          refine ⟨(by show 2 ≤ sizeLine; decide), fun t ht => ?_⟩
          have s9 : Same H8 (upd H8 t (.tup [V.int (1 + rp), .ref tb])) := Same.new ht
          have fr9 : Fr [d, l] H5 (upd H8 t (.tup [V.int (1 + rp), .ref tb])) := (Same.thenFr (s6.trans s7) fr8).same s9
          have hus9 : (upd H8 t (.tup [V.int (1 + rp), .ref tb])) hl = some (.lst (us.map V.ref)) := s9 _ _ (fr8 _ _ ohl (s7 _ _ hus6))
          rw [hlt] at htab G
          exact ⟨hl, _, _, rfl, rfl, hus9, hsz, more _ t (n, g) _ fr9 (hD8.same s9) hus9 ⟨tb, by rw [upd_same]; show some (HO.tup [V.int (1 + rp), .ref tb]) = some (.tup [V.int (n : Int), .ref tb]); rw [hn'], htab.same s9⟩ ⟨G, hn1⟩⟩
        · -- own tastes
          refine ⟨_, rfl, 1 + rp, rfl, by omega, by omega, fun D2 hF2 => ?_⟩
          have en : (1 + rp).toNat = n := by omega
          rw [en]
          refine lc_ranks (m := m) n (by omega) hD6 hF2 (fun j H' fr dl Rq kq => ?_) fun ras2 ts2 H7 fr7 hD7 hrk7 hrks7 hrl7 hr107 hrank7 hfresh7 => ?_
          · exact ⟨_, rfl, _, rfl, d, l, m, rfl, dl, by omega, by omega, fun r xs H2 fr2 dl2 hr hxs hlen hall => kq r xs H2 fr2 dl2 hr hxs hlen hall⟩
          have hus7 := fr7 _ _ ohl hus6
          refine ⟨_, rfl, .inl ⟨rfl, _, SqL.of hus7⟩, _, rfl, _, rfl, _, rfl, _, rfl, _, rfl, d, l, 7, rfl, hD7, by omega, by omega, fun tn H8 fr8 hD8 ht0 ht1 => ?_⟩
          have oD2 : D2 ∉ [d, l] := hD6.free hF2
          have ora : ∀ a ∈ ras2, a ∉ [d, l] := fun a ha => hD6.free (hfresh7 a ha)
          refine ⟨d, l, D2, m, tn, ras2, ts2, rfl, hD8, fr8 _ _ oD2 hrk7, rks_keep hrks7 fun a ha o e => fr8 _ _ (ora a ha) e, oD2, ora, hr107, hrank7, by omega, by omega, by omega, by omega, by omega, by omega, fun tb g H9 fr9 hD9 htb htab G => ?_⟩
          refine ⟨(by show 2 ≤ sizeLine; decide), fun t ht => ?_⟩
          have s10 : Same H9 (upd H9 t (.tup [V.int (1 + rp), .ref tb])) := Same.new ht
          have fr10 : Fr [d, l] H5 (upd H9 t (.tup [V.int (1 + rp), .ref tb])) := (((Same.thenFr s6 fr7).trans fr8).trans fr9).same s10
          have hus10 : (upd H9 t (.tup [V.int (1 + rp), .ref tb])) hl = some (.lst (us.map V.ref)) := s10 _ _ (fr9 _ _ ohl (fr8 _ _ ohl hus7))
          rw [hrl7] at htab G
          exact ⟨hl, _, _, rfl, rfl, hus10, hsz, more _ t (n, g) _ fr10 (hD9.same s10) hus10 ⟨tb, by rw [upd_same]; show some (HO.tup [V.int (1 + rp), .ref tb]) = some (.tup [V.int (n : Int), .ref tb]); rw [hn'], htab.same s10⟩ ⟨G, hn1⟩⟩
    · rintro σ H3 ⟨v5, v6, v7, v8, bs, rfl, fr3, hD3, _, _, hh, hbk, hbl⟩
      exact ⟨_, rfl, k hl bs H3 fr3 hD3 hhl0 hh hbk (by omega) (by omega)⟩
end
end Ws
end
section
set_option Elab.async false
set_option linter.all false
set_option maxRecDepth 100000
set_option maxHeartbeats 4000000
namespace Ws
open PySem PySem.Spec PyProof.Rows L2
set_option autoImplicit false
theorem nodup_len {α : Type} [DecidableEq α] : ∀ (l D : List α), l.Nodup → (∀ x ∈ l, x ∈ D) → l.length ≤ D.length
  | [], _, _, _ => Nat.zero_le _
  | x :: r, D, h, hs => by
    have nd := List.nodup_cons.mp h
    have hx := hs x List.mem_cons_self
    have ih := nodup_len r (D.erase x) nd.2 fun y hy => (List.mem_erase_of_ne (fun e => nd.1 (by rw [← e]; exact hy))).mpr (hs y (List.mem_cons_of_mem _ hy))
    rw [List.length_erase_of_mem hx] at ih
    have hpos : 0 < D.length := List.length_pos_of_mem hx
    rw [List.length_cons]
    omega
theorem nodup_lt {n : Int} {l : List Int} (h : l.Nodup) (hr : ∀ x ∈ l, 0 ≤ x ∧ x < n) (hn : 0 ≤ n) : (l.length : Int) ≤ n := by
  have := nodup_len l (rng 0 n) h fun x hx => mem_rng.mpr (hr x hx)
  rw [len_rng] at this
  omega
theorem RdsOk.within {n : Int} {rs : List (Int × Int)} (h : RdsOk n rs) : ∀ p ∈ rs, 0 ≤ p.1 ∧ p.1 < n ∧ 0 ≤ p.2 ∧ p.2 < n := fun p hp => ⟨(h.2.2 p hp).1, (h.2.2 p hp).2.1, (h.2.2 p hp).2.2.1, (h.2.2 p hp).2.2.2.1⟩
theorem lots_at {H : Hp} {as : List Addr} {rs : List (Int × Int)} {i : Nat} {v : V} (h : Lots H as (rs.map pr)) (e : (as.map V.ref)[i]? = some v) : ∃ a p, v = .ref a ∧ rs[i]? = some p ∧ H a = some (.tup [.int p.1, .int p.2]) := by
  rw [List.getElem?_map] at e
  obtain ⟨a, ha, rfl⟩ := Option.map_eq_some_iff.mp e
  obtain ⟨s, hs, ht⟩ := Paired.at h ha
  rw [List.getElem?_map] at hs
  obtain ⟨p, hp, rfl⟩ := Option.map_eq_some_iff.mp hs
  exact ⟨a, p, rfl, hp, ht⟩
section
variable {P : Program} {w : World} {K : PySem.W.Frag} {mg : Str → Option Value} {base : Heap} {c : Cs} {f1 f2 f3 f4 : Addr} {t9 t6 : Tok}
theorem ok_kept_by (T : Txt P K mg c.CB c.CL c.C1 c.C2 c.C3 c.C4 f1 f2 f3 f4 t9 t6) (d_come_along : Dn P w K mg base CX0 2 "come_along" ["book", "stays", "row"] (sp_come_along c)) {f : Addr} {fd : FuncData} (F : Fun K "kept_by" "kept_by" s_kept_by f fd) : FnOk P w K mg base CX0 3 f fd ["books", "lot"] (sp_kept_by c) := by
  refine F.ok sc_kept_by (fun vs H Q E h => ?_) (fun cdv A outer s H vs Q E hr h => ?_)
  · obtain ⟨l, r, as, m, bs, u, rfl, hl, hbs, hG, has, hu, hok, hul, k⟩ := h
    rfl
  · obtain ⟨l, r, as, m, bs, u, rfl, hl, hbs, hG, has, hu, hok, hul, k⟩ := h
    refine ⟨_, (pss_cons (ps_set (i := 2) sc_kept_by.nd rfl (Or.inr rfl) (pe_lst pa_nil))
    (pss_cons (ps_for PassesOwn.never rfl (pi_listK (K := K) rfl (pv 0)) (pg_name (i := 3) sc_kept_by.nd rfl (Or.inl rfl))
    (pss_one (ps_set (i := 2) sc_kept_by.nd rfl (Or.inr rfl) (pe_op op_cat (pv 2) (pe_callTy (call_listA (K := K) rfl) (by rfl) T.g_list (by decide +kernel) (pa_cons (pe_dn d_come_along (hr.mono (by decide)) pA0 (pa_cons (pv 3) (pa_cons (pe_tup pa_nil) (pa_cons (pv 1) pa_nil)))) pa_nil))))))
    (pss_one (ps_ret (pe_callTy (call_tupleA (K := K) rfl) (by rfl) T.g_tuple (by decide +kernel) (pa_cons (pe_lc (own := [("thing", 4)]) (g := (gName 4)) rfl sc_kept_by.nd (pi_tupK (K := K) rfl (pv 1)) (blkOk_by (N := ["books", "lot", "told", "book", "thing"]) (sc := defScope s_kept_by) (by decide +kernel)) (fun _ _ _ _ _ => (pg_name (i := 4) sc_kept_by.nd rfl (Or.inl rfl))) (fun _ _ _ _ _ => (pts_one (pt_cmpR (op_inK (K := K) rfl) (pv 4) (pv 2) (by rfl)))) (fun _ _ _ _ _ => (pv 4))) pa_nil)))))), ?_⟩
    refine ⟨Nat.zero_le _, fun tl htl => ?_⟩
    have s0 : Same H (upd H tl (.lst [])) := Same.new htl
    have hlen := Paired.len' hbs
    refine ⟨_, rfl, l, rfl, ⟨_, SqL.of (s0 _ _ hl)⟩, for_list (K := K) (a := l) (xs := as.map V.ref) (fun i σ H' => ∃ (tl : Addr) (v : Option V) (td : List Int), σ = [some (.ref l), some (.ref r), some (.ref tl), v, none] ∧ Same H H' ∧ ListI H' tl td ∧ td.length ≤ 3 * i ∧ ∀ x, x ∈ td ↔ ∃ p ∈ bs.take i, x ∈ lst p.2 p.1 u)
      ⟨tl, none, [], rfl, s0, upd_same, Nat.le_refl _, fun x => ⟨fun h => (by cases h), fun ⟨p, hp, _⟩ => (by rw [List.take_zero] at hp; cases hp)⟩⟩ (fun i σ H' _ ⟨_, _, _, _, s', _⟩ => SqL.of (s' _ _ hl)) ?_ ?_⟩
    · rintro i v σ H' hv ⟨tl, w, td, rfl, s', htd, hle, hmem⟩
      rw [List.getElem?_map] at hv
      obtain ⟨b, hb, rfl⟩ := Option.map_eq_some_iff.mp hv
      obtain ⟨p, hp, hbk⟩ := Paired.at hbs hb
      have hpm := List.mem_of_getElem? hp
      have hil := (List.getElem?_eq_some_iff.mp hb).1
      refine ⟨_, rfl, _, rfl, Nat.zero_le _, fun t ht => ⟨_, rfl, ?_⟩⟩
      have s1 : Same H' (upd H' t (.tup [])) := Same.new ht
      have s2 := s'.trans s1
      refine ⟨b, t, r, m, p.1, p.2, [], u, rfl, hbk.at_.same s2, hG p hpm, by have := hbk.k3; omega, upd_same, .nil _ _, s2 _ _ hu, hok.2, fun a H2 s3 ha => ?_⟩
      have hst : Stay m p.1 (lst p.2 p.1 u) := lst_stay (hG p hpm) hok.2
      have hsl := hst.le
      have hk3 := hbk.k3
      refine ⟨a, _, rfl, .inr (SqT.of ha), fun l2 hl2 => ⟨tl, l2, _, _, rfl, rfl, Same.new hl2 _ _ (s3 _ _ (s1 _ _ htd)), upd_same, ?_, fun q hq => ?_⟩⟩
      · rw [List.length_map, List.length_map]
        exact small_k (by change td.length + (lst p.2 p.1 u).length ≤ 1000000; omega)
      · refine ⟨q, _, td ++ lst p.2 p.1 u, rfl, Same.put ((s2.trans s3).trans (Same.new hl2)) hq, by show upd _ q _ q = _; rw [upd_same, List.map_append]; rfl, ?_, fun x => ?_⟩
        · rw [List.length_append]
          omega
        · rw [List.mem_append, hmem, take_more1 hp]
          constructor
          · rintro (⟨p', h1, h2⟩ | h)
            · exact ⟨p', List.mem_append_left _ h1, h2⟩
            · exact ⟨p, List.mem_append_right _ (List.mem_singleton.mpr rfl), h⟩
          · rintro ⟨p', h1, h2⟩
            rcases List.mem_append.mp h1 with h1 | h1
            · exact .inl ⟨p', h1, h2⟩
            · rw [List.mem_singleton.mp h1] at h2; exact .inr h2
    · rintro σ H' ⟨tl, w, td, rfl, s', htd, hle, hmem⟩
      rw [List.length_map, hlen, List.take_length] at hmem
      refine ⟨_, rfl, r, rfl, ⟨_, SqT.of (s' _ _ hu)⟩, fun D hD => lc_fmT u V.int (fun y => inV (.int y) (td.map V.int)) (IsIntR id) (stb_int _) (s' _ _ hu) hD (by omega) (fun y hy H2 s2 Rb kb => ?_) (fun y hy _ H2 s2 Rq kq => ?_) fun ys H2 s2 hys pp => ?_⟩
      · exact ⟨_, rfl, _, rfl, tl, _, rfl, .inl (SqL.of (s2 _ _ htd)), rfl, flat_ints _, _, rfl, kb _ (Same.refl _)⟩
      · exact ⟨_, rfl, kq _ _ (Same.refl _) rfl⟩
      · rw [paired_int pp, map_id_int] at hys
        refine ⟨_, _, rfl, .inl ⟨SqL.of hys, fun a ha => k a _ (fun y => inV (.int y) (td.map V.int)) (Same.put (s'.trans s2) ha) (fun x => ?_) upd_same⟩⟩
        rw [inV_int, decide_eq_true_iff]
        exact hmem x
theorem ok_reached_from (T : Txt P K mg c.CB c.CL c.C1 c.C2 c.C3 c.C4 f1 f2 f3 f4 t9 t6)  {f : Addr} {fd : FuncData} (F : Fun K "reached_from" "reached_from" s_reached_from f fd) : FnOk P w K mg base CX0 1 f fd ["roads", "hand"] (sp_reached_from c) := by
  refine F.ok sc_reached_from (fun vs H Q E h => ?_) (fun cdv A outer s H vs Q E hr h => ?_)
  · obtain ⟨t, h, n, rs, rfl, ⟨as, ht, hts⟩, hrs, h0, hn, k⟩ := h
    rfl
  · obtain ⟨t, h, n, rs, rfl, ⟨as, ht, hts⟩, hrs, h0, hn, k⟩ := h
    refine ⟨_, (pss_cons (ps_par (i := 2) (j := 3) (by rfl) sc_reached_from.nd rfl rfl (by decide) rfl rfl (pa_cons (pe_lst (pa_cons (pv 1) pa_nil)) (pa_cons pe_int pa_nil)) (by rfl))
    (pss_cons (ps_while PassesOwn.never (pt_cmpR op_lt (pv 3) (pe_callB (call_lenA (K := K) rfl) (by rfl) T.g_len (by decide +kernel) (pa_cons (pv 2) pa_nil)) (nomark _))
    (pss_cons (ps_for PassesOwn.never rfl (pi_tupK (K := K) rfl (pv 0)) (pg_tupK (K := K) rfl rfl (pgs_cons (pg_name (i := 4) sc_reached_from.nd rfl (Or.inl rfl)) (pgs_cons (pg_name (i := 5) sc_reached_from.nd rfl (Or.inl rfl)) pgs_nil)))
    (pss_one (ps_if (PW.pt (pw_and (pt_cmpR op_eq (pv 4) (pe_ix (ix_A (K := K) rfl) (pv 2) (pv 3) (fun _ _ => rfl)) (nomark _)) (pw_and1 (pt_cmpR (op_notInK (K := K) rfl) (pv 5) (pv 2) (by rfl)))))
    (pss_one (ps_expr (pe_bm PySem.F.plainAttrs_list PySem.F.slot_list_append PySem.F.type_list_append mt_append (pv 2) (pa_cons (pv 5) pa_nil))))
    pss_nil)))
    (pss_one (ps_aug (i := 3) sc_reached_from.nd rfl (Or.inl rfl) pe_int ip_add))))
    (pss_one (ps_ret (pe_callB cr_sortedI (by rfl) T.g_sorted (by decide +kernel) (pa_cons (pv 2) pa_nil)))))), ?_⟩
    have hin := hrs.within
    refine ⟨_, rfl, (by show 1 ≤ sizeLine; decide), fun rl hrl => ⟨_, _, rfl, ?_⟩⟩
    have s0 : Same H (upd H rl (.lst [.int h])) := Same.new hrl
    have hmap := Paired.len' hts
    rw [List.length_map] at hmap
    refine ⟨fun z σ H' => ∃ (i : Nat) (v4 v5 : Option V) (xs : List Int), σ = [some (.ref t), some (.int h), some (.ref rl), some (.int (i : Int)), v4, v5] ∧ Same H H' ∧ ListI H' rl xs ∧ xs.Nodup ∧ (∀ y ∈ xs, Rch rs h y) ∧ h ∈ xs ∧ (∀ (j : Nat) x, j < i → xs[j]? = some x → ∀ p ∈ rs, p.1 = x → p.2 ∈ xs) ∧ i ≤ xs.length ∧ z = 10 - i,
      ⟨_, 0, none, none, [h], rfl, s0, upd_same, by simp, fun y hy => (by rw [List.mem_singleton.mp hy]; exact .refl), by simp, fun j x hj => absurd hj (Nat.not_lt_zero _), Nat.zero_le _, rfl⟩, ?_⟩
    rintro z σ H' ⟨i, v4, v5, xs, rfl, s', hxs, nd, hall, hh, hcl, hix, rfl⟩
    have hxl := nodup_lt nd (fun y hy => Rch.within hin ⟨h0, hn⟩ (hall y hy)) (by omega)
    have hn4 := hrs.1
    refine ⟨_, rfl, _, rfl, rl, _, rfl, .inl (SqL.of hxs), _, _, rfl, rfl, _, rfl, ?_⟩
    rw [List.length_map]
    by_cases hi : i < xs.length
    · rw [decide_eq_true (show ((i : Int) < ((xs.length : Nat) : Int)) by omega)]
      refine iteT ⟨fun σ' H2 => ∃ (v4 v5 : Option V) (xs : List Int), σ' = [some (.ref t), some (.int h), some (.ref rl), some (.int ((i : Int) + 1)), v4, v5] ∧ Same H H2 ∧ ListI H2 rl xs ∧ xs.Nodup ∧ (∀ y ∈ xs, Rch rs h y) ∧ h ∈ xs ∧ (∀ (j : Nat) x, j < i + 1 → xs[j]? = some x → ∀ p ∈ rs, p.1 = x → p.2 ∈ xs) ∧ i + 1 ≤ xs.length, ?_, ?_⟩
      · rintro σ' H2 ⟨v4, v5, xs', rfl, a1, a2, a3, a4, a5, a6, a7⟩
        exact ⟨10 - (i + 1), by omega, i + 1, v4, v5, xs', rfl, a1, a2, a3, a4, a5, a6, a7, rfl⟩
      obtain ⟨x, hx⟩ : ∃ x, xs[i]? = some x := ⟨xs[i], by simp [hi]⟩
      refine ⟨_, rfl, t, rfl, ⟨_, SqT.of (s' _ _ ht)⟩, for_tup (K := K) (a := t) (xs := as.map V.ref) (fun q σ H2 => ∃ (v4 v5 : Option V) (e : List Int), σ = [some (.ref t), some (.int h), some (.ref rl), some (.int (i : Int)), v4, v5] ∧ Same H H2 ∧ ListI H2 rl (xs ++ e) ∧ (xs ++ e).Nodup ∧ (∀ y ∈ xs ++ e, Rch rs h y) ∧ ∀ p ∈ rs.take q, p.1 = x → p.2 ∈ xs ++ e)
        ⟨v4, v5, [], rfl, s', by rw [List.append_nil]; exact hxs, by rw [List.append_nil]; exact nd, by rw [List.append_nil]; exact hall, fun p hp => (by rw [List.take_zero] at hp; cases hp)⟩ (fun q σ H2 _ ⟨_, _, _, _, s2, _⟩ => SqT.of (s2 _ _ ht)) ?_ ?_⟩
      · rintro q v σ H2 hv ⟨w4, w5, e, rfl, s2, hxe, nde, halle, hq⟩
        obtain ⟨a, p, rfl, hp, ha⟩ := lots_at (Paired.map' hts fun _ _ e => s2 _ _ e) hv
        have hpm := List.mem_of_getElem? hp
        have hxi : (xs ++ e)[i]? = some x := by rw [List.getElem?_append_left hi]; exact hx
        have hle := nodup_lt nde (fun y hy => Rch.within hin ⟨h0, hn⟩ (halle y hy)) (by omega)
        refine ⟨a, _, rfl, SqT.of ha, rfl, _, _, rfl, _, _, rfl, rfl, ?_⟩
        refine ⟨_, rfl, _, rfl, _, rfl, rl, _, (i : Int), _, rfl, rfl, .inl (SqL.of hxe), atI_nat (map_at hxi), rfl, _, rfl, ?_⟩
        rw [decV]
        have done : (p.1 = x → p.2 ∈ xs ++ e) → ∃ (v4 v5 : Option V) (e' : List Int), ([some (.ref t), some (.int h), some (.ref rl), some (.int (i : Int)), some (.int p.1), some (.int p.2)] : L2.St) = [some (.ref t), some (.int h), some (.ref rl), some (.int (i : Int)), v4, v5] ∧ Same H H2 ∧ ListI H2 rl (xs ++ e') ∧ (xs ++ e').Nodup ∧ (∀ y ∈ xs ++ e', Rch rs h y) ∧ ∀ p ∈ rs.take (q + 1), p.1 = x → p.2 ∈ xs ++ e' := fun hc => ⟨_, _, e, rfl, s2, hxe, nde, halle, fun p' hp' => by
          rw [take_more1 hp] at hp'
          rcases List.mem_append.mp hp' with r | r
          · exact hq p' r
          · rw [List.mem_singleton.mp r]; exact hc⟩
        by_cases e1 : p.1 = x
        · rw [decide_eq_true e1]
          refine iteT ⟨_, rfl, _, rfl, rl, _, rfl, .inl (SqL.of hxe), rfl, flat_ints _, _, rfl, ?_⟩
          rw [inV_int]
          by_cases e2 : p.2 ∈ xs ++ e
          · rw [decide_eq_true e2]
            exact iteF (done fun _ => e2)
          · rw [decide_eq_false e2]
            refine iteT ⟨_, rfl, .inl ⟨rfl, _, SqL.of hxe⟩, _, rfl, rl, _, _, rfl, rfl, hxe, by rw [List.length_map]; exact small_lt (by omega), ?_⟩
            refine ⟨_, _, e ++ [p.2], rfl, Same.chg s2 hrl, ?_, ?_, fun y hy => ?_, fun p' hp' e3 => ?_⟩
            · show upd _ rl _ rl = _
              rw [upd_same, ← List.append_assoc, List.map_append (l₁ := xs ++ e)]; rfl
            · rw [← List.append_assoc, List.nodup_append]
              exact ⟨nde, by simp, fun a ha b hb e => e2 (by rw [List.mem_singleton] at hb; rw [← hb, ← e]; exact ha)⟩
            · rw [← List.append_assoc] at hy
              rcases List.mem_append.mp hy with r | r
              · exact halle y r
              · rw [List.mem_singleton.mp r]
                have hr1 := halle x (List.mem_append_left _ (List.mem_of_getElem? hx))
                exact .step hr1 (by rw [← e1]; exact hpm)
            · rw [← List.append_assoc]
              rw [take_more1 hp] at hp'
              rcases List.mem_append.mp hp' with r | r
              · exact List.mem_append_left _ (hq p' r e3)
              · rw [List.mem_singleton.mp r]; exact List.mem_append_right _ (List.mem_singleton.mpr rfl)
        · rw [decide_eq_false e1]
          exact iteF (iteF (done fun e => absurd e e1))
      · rintro σ H2 ⟨w4, w5, e, rfl, s2, hxe, nde, halle, hq⟩
        rw [List.length_map, hmap, List.take_length] at hq
        refine ⟨_, rfl, _, _, rfl, rfl, w4, w5, xs ++ e, rfl, s2, hxe, nde, halle, List.mem_append_left _ hh, fun j y hj hy p hp e1 => ?_, by rw [List.length_append]; omega⟩
        by_cases ej : j = i
        · subst ej
          rw [List.getElem?_append_left hi, hx] at hy
          cases hy
          exact hq p hp e1
        · rw [List.getElem?_append_left (by omega)] at hy
          exact List.mem_append_left _ (hcl j y (by omega) hy p hp e1)
    · rw [decide_eq_false (show ¬ ((i : Int) < ((xs.length : Nat) : Int)) by omega)]
      refine iteF ⟨_, rfl, rl, xs, rfl, SqL.of hxs, fun ys p hperm hsort hp => k p ys _ (Same.put s' hp) (Same.free s' hp) upd_same ?_ fun y => ?_⟩
      · have := hperm.length_eq
        omega
      · rw [hperm.mem_iff]
        refine ⟨hall y, fun hr => rch_of_closed hh (fun p hp hm => ?_) y hr⟩
        obtain ⟨j, hj⟩ := List.mem_iff_getElem?.mp hm
        exact hcl j p.1 (by have := (List.getElem?_eq_some_iff.mp hj).1; omega) hj p hp rfl
theorem ok_wanted_books (T : Txt P K mg c.CB c.CL c.C1 c.C2 c.C3 c.C4 f1 f2 f3 f4 t9 t6) (d_reached_from : Dn P w K mg base CX0 1 "reached_from" ["roads", "hand"] (sp_reached_from c)) {f : Addr} {fd : FuncData} (F : Fun K "wanted_books" "wanted_books" s_wanted_books f fd) : FnOk P w K mg base CX0 2 f fd ["books", "roads", "hand"] (sp_wanted_books c) := by
  refine F.ok sc_wanted_books (fun vs H Q E h => ?_) (fun cdv A outer s H vs Q E hr h => ?_)
  · obtain ⟨b, t, h, as, rs, rfl, hb, ht, hrs, h0, hn, k⟩ := h
    rfl
  · obtain ⟨b, t, h, as, rs, rfl, hb, ht, hrs, h0, hn, k⟩ := h
    refine ⟨_, (pss_one (ps_ret (pe_lc (own := [("one", 3)]) (g := (gName 3)) (tt := tYes) rfl sc_wanted_books.nd (pi_listK (K := K) rfl (pe_dn d_reached_from (hr.mono (by decide)) pA0 (pa_cons (pv 1) (pa_cons (pv 2) pa_nil)))) (blkOk_by (N := ["books", "roads", "hand", "one"]) (sc := defScope s_wanted_books) (by decide +kernel)) (fun _ _ _ _ _ => (pg_name (i := 3) sc_wanted_books.nd rfl (Or.inl rfl))) (fun _ _ _ _ _ => pts_nil) (fun _ _ _ _ _ => (pe_ix (ix_A (K := K) rfl) (pv 0) (pv 3) (fun _ _ => rfl)))))), ?_⟩
    have hin := hrs.within
    refine ⟨_, rfl, _, rfl, t, h, as.length, rs, rfl, ht, hrs, h0, hn, fun l xs H1 s1 hl hxs hxl hmem => ⟨l, rfl, ⟨_, SqL.of hxs⟩, fun D hD => lc_fmL xs V.int (fun _ => true) (fun y v _ => ∃ a, v = .ref a ∧ as[Int.toNat y]? = some a) (fun _ _ _ _ _ r => r) hxs hD (by omega) (fun y hy H' s' Rb kb => kb _ (Same.refl _)) (fun y hy _ H' s' Rq kq => ?_) fun ys H' s' hys pp => ?_⟩⟩
    · have hw := Rch.within hin ⟨h0, hn⟩ ((hmem y).mp hy)
      obtain ⟨z, rfl⟩ : ∃ z : Nat, y = (z : Int) := ⟨y.toNat, by omega⟩
      have e : as[z]? = some (as[z]'(by omega)) := by simp
      exact ⟨_, rfl, _, rfl, b, _, _, _, rfl, rfl, .inr (SqT.of (s' _ _ (s1 _ _ hb))), atI_nat (map_at e), kq _ _ (Same.refl _) ⟨_, rfl, by simpa using e⟩⟩
    · rw [filter_tt] at pp
      have conv : ∀ {xs : List Int} {ys : List V}, Paired (fun (y : Int) v => ∃ a, v = V.ref a ∧ as[Int.toNat y]? = some a) xs ys → ∃ as' : List Addr, ys = as'.map V.ref ∧ Paired (fun a (y : Int) => as[Int.toNat y]? = some a) as' xs := by
        intro xs ys p
        induction p with
        | nil => exact ⟨[], rfl, .nil⟩
        | cons r t ih =>
          obtain ⟨as', e1, e2⟩ := ih
          obtain ⟨a, e3, e4⟩ := r
          exact ⟨a :: as', by rw [e3, e1]; rfl, .cons e4 e2⟩
      obtain ⟨as', e1, e2⟩ := conv pp
      rw [e1] at hys
      exact k D xs as' H' (s1.trans s') (Same.free s1 hD) hys e2 hxl hmem
end
end Ws
end
section
set_option Elab.async false
set_option linter.all false
set_option maxRecDepth 100000
set_option maxHeartbeats 4000000
namespace Ws
open PySem PySem.Spec PyProof.Rows L2
set_option autoImplicit false
theorem lc_gen {α : Type} {J : It} {G : TG} {L : List Nat} {H1 : Hp} {D : Addr} {σ : L2.St} {tt : TT} {te : TE} {Qd : Hp → Prop} (as : List α) (Rl : α → V → Prop) (τ : α → L2.St) (b : α → Bool) (R : α → V → Hp → Prop) (hR : Stb R) (hD : H1 D = none) (hlen : as.length ≤ 1000)
    (hgo : ∀ (j : Nat) x H, as[j]? = some x → Same H1 H → J.go j H ∧ ∀ v H', J.yld j H v H' → H' = H ∧ Rl x v) (hstop : ∀ H, Same H1 H → J.stop as.length H)
    (hG : ∀ x ∈ as, ∀ v, Rl x v → ∀ H', Same H1 H' → ∀ Q : L2.St → Hp → Prop, Q (τ x) H' → G v (wipe σ L) H' Q) (hτ : ∀ x ∈ as, wipe (τ x) L = wipe σ L)
    (ht : ∀ x ∈ as, ∀ H', Same H1 H' → ∀ Rb : Bool → Hp → Prop, (∀ H'', Same H' H'' → Rb (b x) H'') → tt (τ x) H' Rb)
    (he : ∀ x ∈ as, b x = true → ∀ H', Same H1 H' → ∀ Rq : VK, (∀ y H'', Same H' H'' → R x y H'' → Rq y H'') → te (τ x) H' Rq)
    (hd : ∀ ys H', Same H1 H' → H' D = some (.lst ys) → Paired (fun x y => R x y H') (as.filter b) ys → Qd H') :
    ∃ W : Nat → Nat → Hp → Prop, (∃ m, W 0 m (upd H1 D (.lst []))) ∧ ∀ i' m H, W i' m H →
      (J.stop i' H ∧ Qd H) ∨ (J.go i' H ∧ ∃ Nx : Hp → Prop, (∀ H', Nx H' → ∃ m', m' < m ∧ W (i' + 1) m' H') ∧ ∀ x H', J.yld i' H x H' → G x (wipe σ L) H' fun σ2 H2 => wipe σ2 L = wipe σ L ∧ tt σ2 H2 fun b H3 =>
        if b = true then te σ2 H3 fun y H4 => ∃ acc, H4 D = some (.lst acc) ∧ acc.length < sizeLine ∧ Nx (upd H4 D (.lst (acc ++ [y]))) else Nx H3) := by
  let Pv : Nat → Hp → Prop := fun j H => Same H1 H ∧ ∃ ys, H D = some (.lst ys) ∧ Paired (fun x y => R x y H) ((as.take j).filter b) ys
  refine ⟨fun j m H => m = as.length - j ∧ j ≤ as.length ∧ Pv j H, ⟨as.length, by simp, Nat.zero_le _, Same.chg (Same.refl _) hD, [], upd_same, .nil⟩, ?_⟩
  rintro j m H ⟨rfl, hj, s, ys, hDy, pp⟩
  by_cases hlt : j < as.length
  · obtain ⟨x, hx⟩ : ∃ x, as[j]? = some x := ⟨as[j], by simp [hlt]⟩
    have hm := List.mem_of_getElem? hx
    obtain ⟨g1, g2⟩ := hgo j x H hx s
    have hmore := filter_more b hx
    refine .inr ⟨g1, Pv (j + 1), fun H' p' => ⟨as.length - (j + 1), by omega, rfl, hlt, p'⟩, fun v H' y => ?_⟩
    obtain ⟨rfl, rl⟩ := g2 v H' y
    refine hG x hm v rl H' s _ ⟨hτ x hm, ?_⟩
    refine ht x hm H' s _ fun H2 s2 => ?_
    cases hb : b x with
    | true =>
      rw [hb] at hmore
      refine iteT (he x hm hb H2 (s.trans s2) _ fun y H3 s3 r => ⟨ys, s3 _ _ (s2 _ _ hDy), ?_, ?_⟩)
      · have l1 := Paired.len' pp
        have l2 := List.length_filter_le b (as.take j)
        have l3 : (as.take j).length ≤ as.length := by rw [List.length_take]; omega
        exact small_lt (by omega)
      · have s4 : Same H1 H3 := (s.trans s2).trans s3
        refine ⟨Same.chg s4 hD, ys ++ [y], upd_same, ?_⟩
        have st : ∀ t zs, H3 t = some (.tup zs) → (upd H3 D (.lst (ys ++ [y]))) t = some (.tup zs) := fun t zs e => by
          rw [upd_ne (ne_of e (s3 _ _ (s2 _ _ hDy)) (by intro q; cases q))]
          exact e
        rw [hmore]
        refine Paired.app ?_ (hR _ _ _ _ st r)
        exact Paired.map' (hR.same (s2.trans s3) pp) fun a y' r' => hR _ _ _ _ st r'
    | false =>
      rw [hb] at hmore
      refine iteF ⟨s.trans s2, ys, s2 _ _ hDy, ?_⟩
      rw [hmore, if_neg Bool.false_ne_true, List.append_nil]
      exact hR.same s2 pp
  · have e : j = as.length := by omega
    subst e
    rw [List.take_length] at pp
    exact .inl ⟨hstop H s, hd ys H s hDy pp⟩
/-- walking a list of lots -/
theorem walkLots {K : PySem.W.Frag} {a : Addr} {H1 : Hp} {as : List Addr} {ps : List (Int × Int)} (h : H1 a = some (.lst (as.map V.ref))) (hl : Lots H1 as (ps.map pr)) :
    (∀ (j : Nat) p H, ps[j]? = some p → Same H1 H → (Itl K a).go j H ∧ ∀ v H', (Itl K a).yld j H v H' → H' = H ∧ ∃ b, v = .ref b ∧ TupI H1 b (pr p)) ∧ ∀ H, Same H1 H → (Itl K a).stop ps.length H := by
  obtain ⟨w1, w2⟩ := walkL (K := K) h
  have e := Paired.len' hl
  rw [List.length_map] at e
  refine ⟨fun j p H hp s => ?_, fun H s => by have := w2 H s; rw [List.length_map, e] at this; exact this⟩
  obtain ⟨b, hb, hb2⟩ := Paired.at2 hl (by rw [List.getElem?_map, hp]; rfl)
  obtain ⟨g, y⟩ := w1 j (.ref b) H (map_at hb) s
  exact ⟨g, fun v H' yy => ⟨(y v H' yy).1, b, (y v H' yy).2, hb2⟩⟩
/-- all roads taken from what is known end in what is known -/
def Clo (rs : List (Int × Int)) (xs : List (Int × Int)) : Prop := ∀ p ∈ rs, p.1 ∈ xs.map (·.1) → p.2 ∈ xs.map (·.1)
/-- what holds of a part of what is reached -/
structure PreOk (rs : List (Int × Int)) (h : Int) (xs : List (Int × Int)) : Prop where
  head : ∃ r, xs = (h, h) :: r
  nd : (xs.map (·.1)).Nodup
  all : ∀ y ∈ xs.map (·.1), Rch rs h y
  way : ∀ (i : Nat) (p : Int × Int), 0 < i → xs[i]? = some p → (p.2, p.1) ∈ rs ∧ ∃ (j : Nat) (q : Int × Int), j < i ∧ xs[j]? = some q ∧ q.1 = p.2
theorem PreOk.len {n : Int} {rs : List (Int × Int)} {h : Int} {xs : List (Int × Int)} (k : PreOk rs h xs) (hr : RdsOk n rs) (h0 : 0 ≤ h) (hn : h < n) : (xs.length : Int) ≤ n := by
  have := nodup_lt k.nd (fun y hy => Rch.within hr.within ⟨h0, hn⟩ (k.all y hy)) (by omega)
  rw [List.length_map] at this
  exact this
theorem PreOk.fin {rs : List (Int × Int)} {h : Int} {xs : List (Int × Int)} (k : PreOk rs h xs) (c : Clo rs xs) : ReachOk rs h xs := by
  refine ⟨k.head, k.nd, fun y => ⟨k.all y, fun r => rch_of_closed ?_ c y r⟩, k.way⟩
  obtain ⟨r, e⟩ := k.head
  rw [e]
  exact List.mem_cons_self
theorem PreOk.more {rs : List (Int × Int)} {h : Int} {xs : List (Int × Int)} {p : Int × Int} (k : PreOk rs h xs) (hp : p ∈ rs) (h1 : p.1 ∈ xs.map (·.1)) (h2 : p.2 ∉ xs.map (·.1)) : PreOk rs h (xs ++ [(p.2, p.1)]) := by
  refine ⟨?_, ?_, fun y hy => ?_, fun i q hi hq => ?_⟩
  · obtain ⟨r, e⟩ := k.head
    exact ⟨r ++ [(p.2, p.1)], by rw [e]; rfl⟩
  · rw [List.map_append, List.nodup_append]
    refine ⟨k.nd, by simp, fun a ha b hb e => h2 ?_⟩
    rw [List.map_cons, List.map_nil, List.mem_singleton] at hb
    have hb' : b = p.2 := hb
    rw [← hb', ← e]
    exact ha
  · rw [List.map_append] at hy
    rcases List.mem_append.mp hy with r | r
    · exact k.all y r
    · rw [List.map_cons, List.map_nil, List.mem_singleton] at r
      rw [r]
      exact .step (k.all _ h1) hp
  · by_cases hl : i < xs.length
    · rw [List.getElem?_append_left hl] at hq
      obtain ⟨a, j, q', hj, e1, e2⟩ := k.way i q hi hq
      exact ⟨a, j, q', hj, by rw [List.getElem?_append_left (by omega)]; exact e1, e2⟩
    · have hil := (List.getElem?_eq_some_iff.mp hq).1
      rw [List.length_append] at hil
      have hil' : i < xs.length + 1 := hil
      have e : i = xs.length := by omega
      subst e
      rw [List.getElem?_append_right (Nat.le_refl _), Nat.sub_self] at hq
      have e : (p.2, p.1) = q := Option.some.inj hq
      subst e
      obtain ⟨q', hq', e⟩ := List.mem_map.mp h1
      obtain ⟨j, hj⟩ := List.mem_iff_getElem?.mp hq'
      exact ⟨hp, j, q', (List.getElem?_eq_some_iff.mp hj).1, by rw [List.getElem?_append_left (List.getElem?_eq_some_iff.mp hj).1]; exact hj, e⟩
section
variable {P : Program} {w : World} {K : PySem.W.Frag} {mg : Str → Option Value} {base : Heap} {c : Cs} {f1 f2 f3 f4 : Addr} {t9 t6 : Tok}
theorem ok__law_reach (T : Txt P K mg c.CB c.CL c.C1 c.C2 c.C3 c.C4 f1 f2 f3 f4 t9 t6)  {f : Addr} {fd : FuncData} (F : Fun K "_law_reach" "_law_reach" s__law_reach f fd) : FnOk P w K mg base CX0 1 f fd ["_law_roads", "_law_hand"] (sp__law_reach c) := by
  refine F.ok sc__law_reach (fun vs H Q E h => ?_) (fun cdv A outer s H vs Q E hr h => ?_)
  · obtain ⟨t, h, n, rs, rfl, ⟨as, ht, hts⟩, hrs, h0, hn, k⟩ := h
    rfl
  · obtain ⟨t, h, n, rs, rfl, ⟨as, ht, hts⟩, hrs, h0, hn, k⟩ := h
    refine ⟨_, (pss_cons (ps_set (i := 2) sc__law_reach.nd rfl (Or.inl rfl) (pe_lst (pa_cons (pe_tup (pa_cons (pv 1) (pa_cons (pv 1) pa_nil))) pa_nil)))
    (pss_cons (ps_for PassesOwn.never rfl (pi_range1 rfl T.g_range (pa_cons pe_int pa_nil)) (pg_name (i := 3) sc__law_reach.nd rfl (Or.inl rfl))
    (pss_one (ps_for PassesOwn.never rfl (pi_listK (K := K) rfl (pv 0)) (pg_tupK (K := K) rfl rfl (pgs_cons (pg_name (i := 4) sc__law_reach.nd rfl (Or.inl rfl)) (pgs_cons (pg_name (i := 5) sc__law_reach.nd rfl (Or.inl rfl)) pgs_nil)))
    (pss_cons (ps_setLc (i := 8) (own := [("_law_one", 6), ("_law_road", 7)]) (g := (gTup K 2 (gCons (gName 6) (gCons (gName 7) gNil)))) (tt := tYes) rfl sc__law_reach.nd rfl rfl (sw_true rfl rfl rfl (by decide +kernel)) (pi_listK (K := K) rfl (pv 2)) (blkOk_by (N := ["_law_roads", "_law_hand", "_law_reached", "_law_turn", "_law_start", "_law_end", "_law_one", "_law_road", "_law_known"]) (sc := defScope s__law_reach) (by decide +kernel)) (fun _ _ _ _ _ => (pg_tupK (K := K) rfl rfl (pgs_cons (pg_name (i := 6) sc__law_reach.nd rfl (Or.inl rfl)) (pgs_cons (pg_name (i := 7) sc__law_reach.nd rfl (Or.inl rfl)) pgs_nil)))) (fun _ _ _ _ _ => pts_nil) (fun _ _ _ _ _ => (pv 6)))
    (pss_one (ps_if (PW.pt (pw_and (pt_cmpR (op_inK (K := K) rfl) (pv 4) (pv 8) (by rfl)) (pw_and1 (pt_cmpR (op_notInK (K := K) rfl) (pv 5) (pv 8) (by rfl)))))
    (pss_one (ps_expr (pe_bm PySem.F.plainAttrs_list PySem.F.slot_list_append PySem.F.type_list_append mt_append (pv 2) (pa_cons (pe_tup (pa_cons (pv 5) (pa_cons (pv 4) pa_nil))) pa_nil))))
    pss_nil))))))
    (pss_one (ps_ret (pv 2))))), ?_⟩
    have hin := hrs.within
    have hn4 := hrs.1
    refine ⟨_, rfl, _, rfl, (by show 2 ≤ sizeLine; decide), fun b0 hb0 => ⟨(by show 1 ≤ sizeLine; decide), fun rl hrl => ?_⟩⟩
    have s0 : Same H (upd H b0 (.tup [.int h, .int h])) := Same.new hb0
    have hrl' := Same.free s0 hrl
    have hmap := Paired.len' hts
    rw [List.length_map] at hmap
    have p0 : PreOk rs h [(h, h)] := by
      refine ⟨⟨[], rfl⟩, by simp, fun y hy => ?_, fun i p hi hp => ?_⟩
      · rw [List.map_cons, List.map_nil, List.mem_singleton] at hy
        rw [hy]
        exact .refl
      · have := (List.getElem?_eq_some_iff.mp hp).1
        rw [List.length_singleton] at this
        omega
    have hb1 : TupI (upd (upd H b0 (.tup [.int h, .int h])) rl (.lst [.ref b0])) b0 (pr (h, h)) := (Same.new (o := .lst [.ref b0]) hrl) _ _ upd_same
    refine ⟨4, rfl, by omega, by omega, for_range (lo := 0) (n := 4) (fun i σ H' => ∃ (v3 v4 v5 v8 : Option V) (xs : List (Int × Int)), σ = [some (.ref t), some (.int h), some (.ref rl), v3, v4, v5, none, none, v8] ∧ Same H H' ∧ LotL H' rl (xs.map pr) ∧ PreOk rs h xs ∧ (Clo rs xs ∨ i + 1 ≤ xs.length))
      ⟨none, none, none, none, [(h, h)], rfl, Same.put s0 hrl, ⟨[b0], upd_same, .cons hb1 .nil⟩, p0, .inr (Nat.le_refl _)⟩ ?_ ?_⟩
    · rintro i σ H1 hi ⟨v3, v4, v5, v8, xs0, rfl, s1, hx0, pk0, hc0⟩
      refine ⟨_, rfl, t, rfl, ⟨_, SqL.of (s1 _ _ ht)⟩, for_list (K := K) (a := t) (xs := as.map V.ref) (fun q σ H2 => ∃ (v4 v5 v8 : Option V) (xs : List (Int × Int)), σ = [some (.ref t), some (.int h), some (.ref rl), some (.int (0 + (i : Int))), v4, v5, none, none, v8] ∧ Same H H2 ∧ LotL H2 rl (xs.map pr) ∧ PreOk rs h xs ∧ ((xs = xs0 ∧ ∀ p ∈ rs.take q, p.1 ∈ xs0.map (·.1) → p.2 ∈ xs0.map (·.1)) ∨ (¬ Clo rs xs0 ∧ xs0.length < xs.length)))
        ⟨v4, v5, v8, xs0, rfl, s1, hx0, pk0, .inl ⟨rfl, fun p hp => (by rw [List.take_zero] at hp; cases hp)⟩⟩ (fun q σ H2 _ ⟨_, _, _, _, _, s2, _⟩ => SqL.of (s2 _ _ ht)) ?_ ?_⟩
      · rintro q v σ H2 hv ⟨w4, w5, w8, xs, rfl, s2, ⟨bs, hx, hxl⟩, pk, hq⟩
        obtain ⟨a, p, rfl, hp, ha⟩ := lots_at (Paired.map' hts fun _ _ e => s2 _ _ e) hv
        have hpm := List.mem_of_getElem? hp
        have hle := pk.len hrs h0 hn
        obtain ⟨g1, g2⟩ := walkLots (K := K) hx hxl
        refine ⟨a, _, rfl, SqT.of ha, rfl, _, _, rfl, _, _, rfl, rfl, ?_⟩
        refine ⟨_, rfl, rl, rfl, ⟨_, SqL.of hx⟩, fun D hD => lc_gen xs (fun p v => ∃ b, v = .ref b ∧ TupI H2 b (pr p)) (fun o => [some (.ref t), some (.int h), some (.ref rl), some (.int (0 + (i : Int))), some (.int p.1), some (.int p.2), some (.int o.1), some (.int o.2), w8]) (fun _ => true) (IsIntR (·.1)) (stb_int _) hD (by omega) g1 g2 ?_ ?_ (fun y hy H' s' Rb kb => ?_) (fun y hy _ H' s' Rq kq => ?_) fun ys H' s' hys pp => ?_⟩
        · rintro o ho v ⟨b, rfl, hb⟩ H3 s3 Q kQ
          exact ⟨b, _, rfl, SqT.of (s3 _ _ hb), rfl, _, _, rfl, _, _, rfl, rfl, kQ⟩
        · intro o ho; rfl
        · exact kb _ (Same.refl _)
        · exact ⟨_, rfl, kq _ _ (Same.refl _) rfl⟩
        · rw [filter_tt] at pp
          rw [paired_int pp] at hys
          have s3 := s2.trans s'
          have keep : (¬ (p.1 ∈ xs.map (·.1) ∧ p.2 ∉ xs.map (·.1))) → ∃ (v4 v5 v8 : Option V) (ys : List (Int × Int)), ([some (.ref t), some (.int h), some (.ref rl), some (.int (0 + (i : Int))), some (.int p.1), some (.int p.2), none, none, some (.ref D)] : L2.St) = [some (.ref t), some (.int h), some (.ref rl), some (.int (0 + (i : Int))), v4, v5, none, none, v8] ∧ Same H H' ∧ LotL H' rl (ys.map pr) ∧ PreOk rs h ys ∧ ((ys = xs0 ∧ ∀ p ∈ rs.take (q + 1), p.1 ∈ xs0.map (·.1) → p.2 ∈ xs0.map (·.1)) ∨ (¬ Clo rs xs0 ∧ xs0.length < ys.length)) := fun hno => by
            refine ⟨_, _, _, xs, rfl, s3, ⟨bs, s' _ _ hx, hxl.same s'⟩, pk, ?_⟩
            rcases hq with ⟨e, hq⟩ | hq
            · refine .inl ⟨e, fun p' hp' h1 => ?_⟩
              rw [take_more1 hp] at hp'
              rcases List.mem_append.mp hp' with r | r
              · exact hq p' r h1
              · rw [List.mem_singleton.mp r] at h1 ⊢
                rw [← e] at h1 ⊢
                exact Classical.byContradiction fun h2 => hno ⟨h1, h2⟩
            · exact .inr hq
          refine ⟨_, rfl, _, rfl, D, _, rfl, .inl (SqL.of hys), rfl, flat_ints _, _, rfl, ?_⟩
          rw [inV_int]
          by_cases e1 : p.1 ∈ xs.map (·.1)
          · rw [decide_eq_true e1]
            refine iteT ⟨_, rfl, _, rfl, D, _, rfl, .inl (SqL.of hys), rfl, flat_ints _, _, rfl, ?_⟩
            rw [inV_int]
            by_cases e2 : p.2 ∈ xs.map (·.1)
            · rw [decide_eq_true e2]
              exact iteF (keep fun z => z.2 e2)
            · rw [decide_eq_false e2]
              refine iteT ⟨_, rfl, .inl ⟨rfl, _, SqL.of (s' _ _ hx)⟩, _, rfl, _, rfl, (by show 2 ≤ sizeLine; decide), fun nb hnb => ?_⟩
              have s4 := Same.put (o := .tup [.int p.2, .int p.1]) s3 hnb
              have s5 : Same H2 (upd H' nb (.tup [.int p.2, .int p.1])) := Same.put s' hnb
              refine ⟨rl, _, _, rfl, rfl, s5 _ _ hx, by rw [List.length_map]; have := Paired.len' hxl; rw [List.length_map] at this; exact small_lt (by omega), ?_⟩
              have nrl : nb ≠ rl := fun z => by rw [z, s' _ _ hx] at hnb; cases hnb
              refine ⟨_, _, _, xs ++ [(p.2, p.1)], rfl, Same.chg s4 hrl', ⟨bs ++ [nb], ?_, ?_⟩, pk.more hpm e1 e2, ?_⟩
              · show upd _ rl _ rl = _
                rw [upd_same, List.map_append]; rfl
              · rw [List.map_append]
                have st : ∀ b r, TupI (upd H' nb (.tup [.int p.2, .int p.1])) b r → TupI (upd (upd H' nb (.tup [.int p.2, .int p.1])) rl (.lst (bs.map V.ref ++ [.ref nb]))) b r := fun b r e => by
                  show upd _ rl _ b = _
                  rw [upd_ne (ne_of e (s5 _ _ hx) (by intro z; cases z))]
                  exact e
                exact Paired.app (Paired.map' (hxl.same s5) fun b r e => st b r e) (st nb _ upd_same)
              · rw [List.length_append, List.length_singleton]
                rcases hq with ⟨e, hq⟩ | ⟨hq, hl⟩
                · refine .inr ⟨fun cl => e2 ?_, by rw [e]; omega⟩
                  rw [e] at e1 ⊢
                  exact cl p hpm e1
                · exact .inr ⟨hq, by omega⟩
          · rw [decide_eq_false e1]
            exact iteF (iteF (keep fun z => e1 z.1))
      · rintro σ H2 ⟨w4, w5, w8, xs, rfl, s2, hx, pk, hq⟩
        rw [List.length_map, hmap, List.take_length] at hq
        refine ⟨_, w4, w5, w8, xs, rfl, s2, hx, pk, ?_⟩
        · rcases hq with ⟨rfl, hq⟩ | ⟨hq, hl⟩
          · exact .inl hq
          · rcases hc0 with hc0 | hc0
            · exact absurd hc0 hq
            · exact .inr (by omega)
    · rintro σ H1 ⟨v3, v4, v5, v8, xs, rfl, s1, hx, pk, hc⟩
      have hle := pk.len hrs h0 hn
      have cl : Clo rs xs := hc.elim id fun h => absurd h (by omega)
      exact ⟨_, rfl, k rl xs H1 s1 hrl' hx (by omega) (pk.fin cl)⟩
end
end Ws
end
section
set_option Elab.async false
set_option linter.all false
set_option maxRecDepth 100000
set_option maxHeartbeats 4000000
namespace Ws
open PySem PySem.Spec PyProof.Rows L2
set_option autoImplicit false
theorem bk_of {bs : Bks} {y : Int} {p : Nat × (List Int → Int)} (h : bs[y.toNat]? = some p) : bk bs y = p := by unfold bk; rw [h]; rfl
theorem HouseAt.at {H : Hp} {m : Int} {l : Addr} {bs : Bks} (h : HouseAt H m l bs) {j : Nat} (hj : j < bs.length) : ∃ (ts : List Addr) (t : Addr) (p : Nat × (List Int → Int)), H l = some (.lst (ts.map V.ref)) ∧ ts[j]? = some t ∧ bs[j]? = some p ∧ EntAt H m t p := by
  obtain ⟨ts, h1, h2⟩ := h
  have e : bs[j]? = some bs[j] := by simp [hj]
  obtain ⟨t, ht, hp⟩ := Paired.at2 h2 e
  exact ⟨ts, t, _, h1, ht, e, hp⟩
theorem HouseAt.same {H H' : Hp} {m : Int} {l : Addr} {bs : Bks} (h : HouseAt H m l bs) (s : Same H H') : HouseAt H' m l bs := by
  obtain ⟨ts, h1, h2⟩ := h
  exact ⟨ts, s _ _ h1, Paired.map' h2 fun t p ⟨d, e1, e2⟩ => ⟨d, s _ _ e1, e2.same s⟩⟩
open Classical in
theorem kept_eq {s : Hs} {h : Nat} {u : List Int} {f : Int → Bool} (e : ∀ x ∈ u, f x = true ↔ ∃ y, Rch s.rs (h : Int) y ∧ x ∈ lstOf s.bs y u) : u.filter f = s.kept h u := by
  unfold Hs.kept Ws.kept
  refine List.filter_congr fun x hx => ?_
  rw [Bool.eq_iff_iff, decide_eq_true_iff]
  exact e x hx
section
variable {P : Program} {w : World} {K : PySem.W.Frag} {mg : Str → Option Value} {base : Heap} {c : Cs} {f1 f2 f3 f4 : Addr} {t9 t6 : Tok}
theorem ok__law_kept (T : Txt P K mg c.CB c.CL c.C1 c.C2 c.C3 c.C4 f1 f2 f3 f4 t9 t6) (d__law_list : Dn P w K mg base CX0 2 "_law_list" ["_law_table_here", "_law_places", "_law_lot"] (sp__law_list c)) (d__law_reach : Dn P w K mg base CX0 1 "_law_reach" ["_law_roads", "_law_hand"] (sp__law_reach c)) {f : Addr} {fd : FuncData} (F : Fun K "_law_kept" "_law_kept" s__law_kept f fd) : FnOk P w K mg base CX0 3 f fd ["_law_house_here", "_law_roads", "_law_hand", "_law_heard"] (sp__law_kept c) := by
  refine F.ok sc__law_kept (fun vs H Q E h => ?_) (fun cdv A outer s H vs Q E hr h => ?_)
  · obtain ⟨hl, t, a, s, h, u, rfl, hh, ht, hok, hhl, hu, huo, hul, k⟩ := h
    rfl
  · obtain ⟨hl, t, a, s, h, u, rfl, hh, ht, hok, hhl, hu, huo, hul, k⟩ := h
    refine ⟨_, (pss_cons (ps_set (i := 4) sc__law_kept.nd rfl (Or.inr rfl) (pe_lst pa_nil))
    (pss_cons (ps_for PassesOwn.never rfl (pi_listK (K := K) rfl (pe_dn d__law_reach (hr.mono (by decide)) pA0 (pa_cons (pv 1) (pa_cons (pv 2) pa_nil)))) (pg_tupK (K := K) rfl rfl (pgs_cons (pg_name (i := 5) sc__law_kept.nd rfl (Or.inl rfl)) (pgs_cons (pg_name (i := 6) sc__law_kept.nd rfl (Or.inl rfl)) pgs_nil)))
    (pss_one (ps_set (i := 4) sc__law_kept.nd rfl (Or.inr rfl) (pe_op op_cat (pv 4) (pe_callTy (call_listA (K := K) rfl) (by rfl) T.g_list (by decide +kernel) (pa_cons (pe_dn d__law_list (hr.mono (by decide)) pA0 (pa_cons (pe_ix (ix_A (K := K) rfl) (pe_ix (ix_A (K := K) rfl) (pv 0) (pv 5) (fun _ _ => rfl)) pe_int (fun _ _ => rfl)) (pa_cons (pe_ix (ix_A (K := K) rfl) (pe_ix (ix_A (K := K) rfl) (pv 0) (pv 5) (fun _ _ => rfl)) pe_int (fun _ _ => rfl)) (pa_cons (pv 3) pa_nil)))) pa_nil))))))
    (pss_one (ps_ret (pe_callTy (call_tupleA (K := K) rfl) (by rfl) T.g_tuple (by decide +kernel) (pa_cons (pe_lc (own := [("_law_thing", 7)]) (g := (gName 7)) rfl sc__law_kept.nd (pi_tupK (K := K) rfl (pv 3)) (blkOk_by (N := ["_law_house_here", "_law_roads", "_law_hand", "_law_heard", "_law_told", "_law_one", "_law_road", "_law_thing"]) (sc := defScope s__law_kept) (by decide +kernel)) (fun _ _ _ _ _ => (pg_name (i := 7) sc__law_kept.nd rfl (Or.inl rfl))) (fun _ _ _ _ _ => (pts_one (pt_cmpR (op_inK (K := K) rfl) (pv 7) (pv 4) (by rfl)))) (fun _ _ _ _ _ => (pv 7))) pa_nil)))))), ?_⟩
    have hin := hok.rds.within
    have hn : s.n = (s.bs.length : Int) := rfl
    refine ⟨Nat.zero_le _, fun tl htl => ?_⟩
    have s0 : Same H (upd H tl (.lst [])) := Same.new htl
    refine ⟨_, rfl, _, rfl, t, (h : Int), s.n, s.rs, rfl, ht.same s0, hok.rds, by omega, by omega, fun l xs H1 s1 hl' hL hxl hR => ?_⟩
    obtain ⟨bs, hL1, hL2⟩ := hL
    have S1 := s0.trans s1
    refine ⟨l, rfl, ⟨_, SqL.of hL1⟩, for_list (K := K) (a := l) (xs := bs.map V.ref) (fun i σ H' => ∃ (tl : Addr) (v5 v6 : Option V) (td : List Int), σ = [some (.ref hl), some (.ref t), some (.int (h : Int)), some (.ref a), some (.ref tl), v5, v6, none] ∧ Same H1 H' ∧ ListI H' tl td ∧ td.length ≤ 3 * i ∧ ∀ x, x ∈ td ↔ ∃ p ∈ xs.take i, x ∈ lstOf s.bs p.1 u)
      ⟨tl, none, none, [], rfl, Same.refl _, s1 _ _ upd_same, Nat.le_refl _, fun x => ⟨fun h => (by cases h), fun ⟨p, hp, _⟩ => (by rw [List.take_zero] at hp; cases hp)⟩⟩ (fun i σ H' _ ⟨_, _, _, _, _, s', _⟩ => SqL.of (s' _ _ hL1)) ?_ ?_⟩
    · rintro i v σ H' hv ⟨tl, w5, w6, td, rfl, s', htd, hle, hmem⟩
      obtain ⟨b, p, rfl, hp, hb⟩ := lots_at (Paired.map' hL2 fun _ _ e => s' _ _ e) hv
      have hil := (List.getElem?_eq_some_iff.mp hp).1
      have hpw := Rch.within hin (show (0 : Int) ≤ h ∧ (h : Int) < s.n by omega) ((hR.mem p.1).mp (List.mem_map.mpr ⟨p, List.mem_of_getElem? hp, rfl⟩))
      obtain ⟨p1, p2⟩ := p
      obtain ⟨z, rfl⟩ : ∃ z : Nat, p1 = (z : Int) := ⟨p1.toNat, by have := hpw.1; simp only at this; omega⟩
      have hz : z < s.bs.length := by have := hpw.2; simp only at this; omega
      have S' := S1.trans s'
      obtain ⟨ts, et, q, hts, hte, hq, d, hed, htab⟩ := (hh.same S').at hz
      have hbk : bk s.bs (z : Int) = q := bk_of hq
      have hqm := List.mem_of_getElem? hq
      have G := hok.bks.good q hqm
      have hk3 := hok.k3 q hqm
      refine ⟨b, _, rfl, SqT.of hb, rfl, _, _, rfl, _, _, rfl, rfl, ?_⟩
      refine ⟨_, rfl, _, rfl, _, rfl, hl, _, _, _, rfl, rfl, .inl (SqL.of hts), atI_nat (map_at hte), et, _, _, _, rfl, rfl, .inr (SqT.of hed), atI1 rfl, ?_⟩
      refine ⟨_, rfl, _, rfl, hl, _, _, _, rfl, rfl, .inl (SqL.of hts), atI_nat (map_at hte), et, _, _, _, rfl, rfl, .inr (SqT.of hed), atI0 rfl, ?_⟩
      refine ⟨_, rfl, d, a, s.m, q.1, q.2, u, rfl, htab, G, by omega, S' _ _ hu, huo, fun r H2 s2 hr2 => ?_⟩
      have hst : Stay s.m q.1 (lst q.2 q.1 u) := lst_stay G huo.2
      have hsl := hst.le
      refine ⟨r, _, rfl, .inr (SqT.of hr2), fun l2 hl2 => ⟨tl, l2, _, _, rfl, rfl, Same.new hl2 _ _ (s2 _ _ htd), upd_same, ?_, fun o ho => ?_⟩⟩
      · rw [List.length_map, List.length_map]
        exact small_k (by change td.length + (lst q.2 q.1 u).length ≤ 1000000; omega)
      · refine ⟨o, _, _, td ++ lst q.2 q.1 u, rfl, Same.put ((s'.trans s2).trans (Same.new hl2)) ho, by show upd _ o _ o = _; rw [upd_same, List.map_append], ?_, fun x => ?_⟩
        · rw [List.length_append]
          omega
        · rw [List.mem_append, hmem, take_more1 hp]
          have hlo : lstOf s.bs (z : Int) u = lst q.2 q.1 u := by unfold lstOf; rw [hbk]
          constructor
          · rintro (⟨p', h1, h2⟩ | h)
            · exact ⟨p', List.mem_append_left _ h1, h2⟩
            · exact ⟨_, List.mem_append_right _ (List.mem_singleton.mpr rfl), by rw [hlo]; exact h⟩
          · rintro ⟨p', h1, h2⟩
            rcases List.mem_append.mp h1 with h1 | h1
            · exact .inl ⟨p', h1, h2⟩
            · rw [List.mem_singleton.mp h1, hlo] at h2; exact .inr h2
    · rintro σ H' ⟨tl, w5, w6, td, rfl, s', htd, hle, hmem⟩
      have hb := Paired.len' hL2
      rw [List.length_map] at hb
      rw [List.length_map, hb] at hle
      rw [List.length_map, hb, List.take_length] at hmem
      have S' := S1.trans s'
      refine ⟨_, rfl, a, rfl, ⟨_, SqT.of (S' _ _ hu)⟩, fun D hD => lc_fmT u V.int (fun y => inV (.int y) (td.map V.int)) (IsIntR id) (stb_int _) (S' _ _ hu) hD (by omega) (fun y hy H2 s2 Rb kb => ?_) (fun y hy _ H2 s2 Rq kq => ?_) fun ys H2 s2 hys pp => ?_⟩
      · exact ⟨_, rfl, _, rfl, tl, _, rfl, .inl (SqL.of (s2 _ _ htd)), rfl, flat_ints _, _, rfl, kb _ (Same.refl _)⟩
      · exact ⟨_, rfl, kq _ _ (Same.refl _) rfl⟩
      · rw [paired_int pp, map_id_int] at hys
        have e : u.filter (fun y => inV (.int y) (td.map V.int)) = s.kept h u := kept_eq fun x hx => by
          rw [inV_int, decide_eq_true_iff, hmem]
          constructor
          · rintro ⟨p, h1, h2⟩
            exact ⟨p.1, (hR.mem p.1).mp (List.mem_map.mpr ⟨p, h1, rfl⟩), h2⟩
          · rintro ⟨y, h1, h2⟩
            obtain ⟨p, h3, h4⟩ := List.mem_map.mp ((hR.mem y).mpr h1)
            exact ⟨p, h3, by rw [h4]; exact h2⟩
        rw [e] at hys
        refine ⟨_, _, rfl, .inl ⟨SqL.of hys, fun a ha => k a _ (Same.put (S'.trans s2) ha) upd_same⟩⟩
end
end Ws
end
section
set_option Elab.async false
set_option linter.all false
set_option maxRecDepth 100000
set_option maxHeartbeats 4000000
namespace Ws
open PySem PySem.Spec PyProof.Rows L2
set_option autoImplicit false
/-! K35: need_house_books, need_steady_books. -/
/-- what enumerate walks -/
def EnIt (K : PySem.W.Frag) (a : Addr) (H : Hp) (xs : List V) (J : It) : Prop := (J = Ite K a ∧ H a = some (.lst xs)) ∨ (J = IteT K a ∧ H a = some (.tup xs))
theorem for_en {K : PySem.W.Frag} {J : It} {a : Addr} {H0 : Hp} {xs : List V} {g : TG} {tb : TS} {D : Ends} {σ : L2.St} {H : Hp} (hJ : EnIt K a H0 xs J) (Pv : Nat → L2.St → Hp → Prop) (h0 : Pv 0 σ H) (hl : ∀ i σ H, Pv i σ H → ∀ o, H0 a = some o → H a = some o)
    (hs : ∀ i x σ H T, xs[i]? = some x → Pv i σ H → H T = none → g (.ref T) σ (upd H T (.tup [.int (i : Nat), x])) fun σ2 H2 => tb { D with nx := Pv (i + 1), ct := Pv (i + 1), bk := D.nx } σ2 H2) (hd : ∀ σ H, Pv xs.length σ H → D.nx σ H) :
    ∃ W : Nat → Nat → L2.St → Hp → Prop, (∃ m, W 0 m σ H) ∧ ∀ i m σ H, W i m σ H →
      (J.stop i H ∧ D.nx σ H) ∨ (J.go i H ∧ ∃ N : L2.St → Hp → Prop, (∀ σ' H', N σ' H' → ∃ m', m' < m ∧ W (i + 1) m' σ' H') ∧ ∀ x H', J.yld i H x H' → g x σ H' fun σ2 H2 => tb { D with nx := N, ct := N, bk := D.nx } σ2 H2) := by
  refine ⟨fun i m σ H => m = xs.length - i ∧ i ≤ xs.length ∧ Pv i σ H, ⟨xs.length, by simp, Nat.zero_le _, h0⟩, ?_⟩
  rintro i m σ H ⟨rfl, hi, p⟩
  have s := hl i σ H p
  by_cases hlt : i < xs.length
  · have e : xs[i]? = some xs[i] := by simp [hlt]
    refine .inr ⟨?_, Pv (i + 1), fun σ' H' p' => ⟨xs.length - (i + 1), by omega, rfl, hlt, p'⟩, fun x H' y => ?_⟩
    · rcases hJ with ⟨rfl, h⟩ | ⟨rfl, h⟩
      · exact ⟨xs, xs[i], SqL.of (s _ h), e⟩
      · exact ⟨xs, xs[i], SqT.of (s _ h), e⟩
    · rcases hJ with ⟨rfl, h⟩ | ⟨rfl, h⟩
      · obtain ⟨T, x', rfl, hT, rfl, hx⟩ := y
        exact hs i x' σ H T (hx xs (SqL.of (s _ h))) p hT
      · obtain ⟨T, x', rfl, hT, rfl, hx⟩ := y
        exact hs i x' σ H T (hx xs (SqT.of (s _ h))) p hT
  · have e : i = xs.length := by omega
    subst e
    refine .inl ⟨?_, hd σ H p⟩
    rcases hJ with ⟨rfl, h⟩ | ⟨rfl, h⟩
    · exact ⟨xs, SqL.of (s _ h), Nat.le_refl _⟩
    · exact ⟨xs, SqT.of (s _ h), rfl⟩
theorem for_enS {K : PySem.W.Frag} {a : Addr} {xs : List V} {g : TG} {tb : TS} {D : Ends} {σ : L2.St} {H : Hp} (h : Seq H a xs) (Pv : Nat → L2.St → Hp → Prop) (h0 : Pv 0 σ H) (hl : ∀ i σ H', Pv i σ H' → ∀ o, H a = some o → H' a = some o)
    (hs : ∀ i x σ H T, xs[i]? = some x → Pv i σ H → H T = none → g (.ref T) σ (upd H T (.tup [.int (i : Nat), x])) fun σ2 H2 => tb { D with nx := Pv (i + 1), ct := Pv (i + 1), bk := D.nx } σ2 H2) (hd : ∀ σ H, Pv xs.length σ H → D.nx σ H) :
    (SqL K H a xs ∧ ∃ W : Nat → Nat → L2.St → Hp → Prop, (∃ m, W 0 m σ H) ∧ ∀ i m σ H, W i m σ H →
      ((Ite K a).stop i H ∧ D.nx σ H) ∨ ((Ite K a).go i H ∧ ∃ N : L2.St → Hp → Prop, (∀ σ' H', N σ' H' → ∃ m', m' < m ∧ W (i + 1) m' σ' H') ∧ ∀ x H', (Ite K a).yld i H x H' → g x σ H' fun σ2 H2 => tb { D with nx := N, ct := N, bk := D.nx } σ2 H2)) ∨
    (SqT K H a xs ∧ ∃ W : Nat → Nat → L2.St → Hp → Prop, (∃ m, W 0 m σ H) ∧ ∀ i m σ H, W i m σ H →
      ((IteT K a).stop i H ∧ D.nx σ H) ∨ ((IteT K a).go i H ∧ ∃ N : L2.St → Hp → Prop, (∀ σ' H', N σ' H' → ∃ m', m' < m ∧ W (i + 1) m' σ' H') ∧ ∀ x H', (IteT K a).yld i H x H' → g x σ H' fun σ2 H2 => tb { D with nx := N, ct := N, bk := D.nx } σ2 H2)) := by
  rcases h with h | h
  · exact .inl ⟨SqL.of h, for_en (.inl ⟨rfl, h⟩) Pv h0 hl hs hd⟩
  · exact .inr ⟨SqT.of h, for_en (.inr ⟨rfl, h⟩) Pv h0 hl hs hd⟩
theorem BkM.same {c : Cs} {H H' : Hp} {x : V} {m : Int} (h : BkM c H x m) (s : Same H H') : BkM c H' x m := by
  obtain ⟨b, dx, fs, e1, e2, e3⟩ := h
  exact ⟨b, dx, fs, e1, s _ _ e2, e3⟩
theorem BkAt.bkm {c : Cs} {H : Hp} {b : Addr} {m : Int} {p : Nat × (List Int → Int)} (h : BkAt c H m b p) : BkM c H (.ref b) m := by
  obtain ⟨dx, gs, d, e, _⟩ := h.at_
  exact ⟨b, dx, _, rfl, e, rfl⟩
theorem BkAt.same' {c : Cs} {H H' : Hp} {b : Addr} {m : Int} {p : Nat × (List Int → Int)} (h : BkAt c H m b p) (s : Same H H') : BkAt c H' m b p := ⟨h.at_.same s, h.k3⟩
section
variable {P : Program} {w : World} {K : PySem.W.Frag} {mg : Str → Option Value} {base : Heap} {c : Cs} {f1 f2 f3 f4 : Addr} {t9 t6 : Tok}
theorem kd_book (T : Txt P K mg c.CB c.CL c.C1 c.C2 c.C3 c.C4 f1 f2 f3 f4 t9 t6) {H : Hp} {v : V} (h : Kd H v) : ∃ t, TyX K H v t ∧ PySem.W.kitOne K t (.ref c.CB) = some false := by
  cases v with
  | non => exact ⟨_, .base .non, T.kB1⟩
  | bl b => exact ⟨_, .base (.bl b), T.kB2⟩
  | int i => exact ⟨_, .base (.int i), T.kB3⟩
  | str x => exact ⟨_, .base (.str x), T.kB4⟩
  | ref a =>
    obtain ⟨xs, e | e⟩ := h
    · exact ⟨_, .base (.lst e), T.kB6⟩
    · exact ⟨_, .base (.tup e), T.kB5⟩
  | byt _ => exact h.elim
  | flt _ => exact h.elim
  | ty _ => exact h.elim
theorem bkm_isi (T : Txt P K mg c.CB c.CL c.C1 c.C2 c.C3 c.C4 f1 f2 f3 f4 t9 t6) {H : Hp} {v : V} {m : Int} (h : BkM c H v m) : ∃ t, TyX K H v t ∧ PySem.W.kitOne K t (.ref c.CB) = some true := by
  obtain ⟨b, dx, fs, rfl, hb, _⟩ := h
  exact ⟨_, .base (.ins hb T.clB T.bA T.bN T.bT T.bM), (if_pos (by simp) : PySem.W.kitOne K (.ref c.CB) (.ref c.CB) = some true)⟩
theorem ok_need_house_books (T : Txt P K mg c.CB c.CL c.C1 c.C2 c.C3 c.C4 f1 f2 f3 f4 t9 t6) (d_is_sequence : Dn P w K mg base CX0 1 "is_sequence" ["value"] (sp_is_sequence c)) {f : Addr} {fd : FuncData} (F : Fun K "need_house_books" "need_house_books" s_need_house_books f fd) : FnOk P w K mg base (L2.CX P w) 2 f fd ["value"] (sp_need_house_books c) := by
  refine F.okX sc_need_house_books (fun vs H Q E h => ?_) (fun cdv A outer s H vs Q E hr h => ?_)
  · obtain ⟨v, rfl, hv⟩ := h
    rfl
  · obtain ⟨v, rfl, hv⟩ := h
    refine ⟨_, (pss_cons (ps_if (PW.pt (pw_or (pt_not (pt_val (pe_dn d_is_sequence (hr.mono (by decide)) pA0 (pa_cons (pv 0) pa_nil)))) (pw_or1 (pt_not (pt_chain op_le op_le pe_int (pe_callB (call_lenA (K := K) rfl) (by rfl) T.g_len (by decide +kernel) (pa_cons (pv 0) pa_nil)) (pe_glob (v := .int 6) rfl T.m_MOST_BOOKS ⟨_, rfl⟩))))))
    (pss_one (ps_raiseX rfl T.x_InvalidBook hr (takes_of rfl rfl rfl rfl) (pe_un un_neg pe_int)))
    pss_nil)
    (pss_cons (ps_for (passes_of rfl) rfl (pi_enumA (by rfl) T.g_enumerate (pa_cons (pv 0) pa_nil)) (pg_tupK (K := K) rfl rfl (pgs_cons (pg_name (i := 1) sc_need_house_books.nd rfl (Or.inl rfl)) (pgs_cons (pg_name (i := 2) sc_need_house_books.nd rfl (Or.inl rfl)) pgs_nil)))
    (pss_one (ps_if (PW.pt (pw_or (pt_not (pt_val (pe_callB call_isi (by rfl) T.g_isinstance (by decide +kernel) (pa_cons (pv 2) (pa_cons (pe_glob (v := .ref c.CB) rfl T.m_Book rfl) pa_nil))))) (pw_or1 (pt_cmpR op_ne (pe_fldK (K := K) rfl (pv 2)) (pe_fldK (K := K) rfl (pe_ix (ix_A (K := K) rfl) (pv 0) pe_int (fun _ _ => rfl))) (nomark _)))))
    (pss_one (ps_raiseX rfl T.x_InvalidBook hr (takes_of rfl rfl rfl rfl) (pv 1)))
    pss_nil)))
    (pss_one (ps_ret (pe_callTy (call_tupleA (K := K) rfl) (by rfl) T.g_tuple (by decide +kernel) (pa_cons (pv 0) pa_nil)))))), ?_⟩
    have hkd : Kd H v := by
      rcases hv with ⟨at_, hb | hb, _⟩ | ⟨xs, ⟨a, m, rfl, hs, _⟩, _⟩
      · exact hb.1
      · obtain ⟨a, xs, rfl, hs, _⟩ := hb
        exact ⟨xs, hs⟩
      · exact ⟨xs, hs⟩
    have hn : (isS v = false ∧ Raise E c.C1 H (.int (-1))) ∨ ∃ (a : Addr) (xs : List V), v = .ref a ∧ Seq H a xs ∧ (((xs.length = 0 ∨ 6 < xs.length) ∧ Raise E c.C1 H (.int (-1))) ∨ (1 ≤ xs.length ∧ xs.length ≤ 6 ∧
        ((∃ (j : Nat) (m : Int) (y : V), xs[j]? = some y ∧ Raise E c.C1 H (.int (j : Int)) ∧ (∀ i x, i < j → xs[i]? = some x → BkM c H x m) ∧ (Kd H y ∨ (0 < j ∧ ∃ m', m' ≠ m ∧ BkM c H y m'))) ∨
         (∃ m : Int, (∀ x ∈ xs, BkM c H x m) ∧ ∀ t H', Same H H' → H' t = some (.tup xs) → Q (.ref t) H')))) := by
      rcases hv with ⟨at_, hb | hb, hR⟩ | ⟨xs, ⟨a, m, rfl, hs, h1, h6, hall⟩, k⟩
      · obtain ⟨_, e, rfl⟩ := hb
        exact .inl ⟨e, hR⟩
      · obtain ⟨a, xs, rfl, hs, ⟨hl, rfl⟩ | ⟨h1, h6, j, m, y, hy, rfl, hall, hbad⟩⟩ := hb
        · exact .inr ⟨a, xs, rfl, hs, .inl ⟨hl, hR⟩⟩
        · exact .inr ⟨a, xs, rfl, hs, .inr ⟨h1, h6, .inl ⟨j, m, y, hy, hR, hall, hbad⟩⟩⟩
      · exact .inr ⟨a, xs, rfl, hs, .inr ⟨h1, h6, .inr ⟨m, hall, k⟩⟩⟩
    clear hv
    refine ⟨_, rfl, v, rfl, hkd, fun H1 s1 => ⟨_, rfl, ?_⟩⟩
    rcases hn with ⟨e, kF⟩ | ⟨a, xs, rfl, hs, hc⟩
    · rw [e]
      exact iteT ⟨_, rfl, fun d hd => kF _ d (Same.put s1 hd) (Same.free s1 hd) upd_same⟩
    have hs1 := hs.same s1
    show (if (!isS (.ref a)) = true then _ else _)
    refine iteF ⟨_, rfl, a, xs, rfl, hs1.sq, _, _, rfl, rfl, _, rfl, ?_⟩
    rcases hc with ⟨hl, kF⟩ | ⟨h1, h6, hc⟩
    · rcases hl with hl | hl
      · rw [decide_eq_false (show ¬ ((1 : Int) ≤ ((xs.length : Nat) : Int)) by omega)]
        exact iteF ⟨_, rfl, iteT ⟨_, rfl, fun d hd => kF _ d (Same.put s1 hd) (Same.free s1 hd) upd_same⟩⟩
      · rw [decide_eq_true (show ((1 : Int) ≤ ((xs.length : Nat) : Int)) by omega)]
        refine iteT ⟨_, _, rfl, rfl, _, rfl, ?_⟩
        rw [decide_eq_false (show ¬ (((xs.length : Nat) : Int) ≤ (6 : Int)) by omega)]
        exact iteT ⟨_, rfl, fun d hd => kF _ d (Same.put s1 hd) (Same.free s1 hd) upd_same⟩
    rw [decide_eq_true (show ((1 : Int) ≤ ((xs.length : Nat) : Int)) by omega)]
    refine iteT ⟨_, _, rfl, rfl, _, rfl, ?_⟩
    rw [decide_eq_true (show (((xs.length : Nat) : Int) ≤ (6 : Int)) by omega)]
    refine iteF ⟨_, rfl, a, xs, rfl, for_enS (K := K) hs1 (fun i σ H' => ∃ v1 v2 : Option V, σ = [some (.ref a), v1, v2] ∧ Same H1 H' ∧ ((∃ (j : Nat) (m : Int) (y : V), i ≤ j ∧ xs[j]? = some y ∧ Raise E c.C1 H (.int (j : Int)) ∧ (∀ i x, i < j → xs[i]? = some x → BkM c H x m) ∧ (Kd H y ∨ (0 < j ∧ ∃ m', m' ≠ m ∧ BkM c H y m'))) ∨
         (∃ m : Int, (∀ x ∈ xs, BkM c H x m) ∧ ∀ t H', Same H H' → H' t = some (.tup xs) → Q (.ref t) H')))
      ⟨none, none, rfl, Same.refl _, hc.elim (fun ⟨j, m, y, h⟩ => .inl ⟨j, m, y, Nat.zero_le _, h⟩) .inr⟩ (fun i σ H' ⟨_, _, _, s', _⟩ => s' a) ?_ ?_⟩
    · rintro i x σ H2 b hx ⟨v1, v2, rfl, s2, hc⟩ hb
      have s3 : Same H1 (upd H2 b (.tup [.int (i : Nat), x])) := Same.put s2 hb
      have S3 := s1.trans s3
      refine ⟨b, _, rfl, SqT.of upd_same, rfl, _, _, rfl, _, _, rfl, rfl, ?_⟩
      have bkf : ∀ m, BkM c H x m → ∃ b' dx fs, x = .ref b' ∧ (upd H2 b (.tup [.int (i : Nat), x])) b' = some (.ins c.CB dx fs) ∧ fs.lookup ("many" : Str) = some (.int m) := fun m h => h.same S3
      rcases hc with ⟨j, m, y, hle, hy, kF, hall, hbad⟩ | ⟨m, hall, k⟩
      · by_cases e : i = j
        · subst e
          rw [hx] at hy
          cases hy
          rcases hbad with hk | ⟨h0, m', hm', hbk⟩
          · obtain ⟨t, ht1, ht2⟩ := kd_book T (hk.same S3)
            refine ⟨_, rfl, _, _, t, _, _, rfl, .own _, ht1, ht2, _, rfl, ?_⟩
            exact iteT ⟨_, rfl, fun d hd => kF _ d (Same.put S3 hd) (Same.free S3 hd) upd_same⟩
          · obtain ⟨t, ht1, ht2⟩ := bkm_isi T (hbk.same S3)
            obtain ⟨x0, hx0⟩ : ∃ x0, xs[0]? = some x0 := ⟨xs[0], by simp⟩
            obtain ⟨b1, dx1, fs1, rfl, hb1, hl1⟩ := bkf m' hbk
            obtain ⟨b2, dx2, fs2, rfl, hb2, hl2⟩ := (hall 0 x0 h0 hx0).same S3
            refine ⟨_, rfl, _, _, t, _, _, rfl, .own _, ht1, ht2, _, rfl, ?_⟩
            refine iteF ⟨_, rfl, b1, _, _, _, _, rfl, hb1, T.clB, T.nB1, hl1, _, rfl, a, _, _, _, rfl, rfl, (hs1.same s3).sq, atI0 hx0, b2, _, _, _, _, rfl, hb2, T.clB, T.nB1, hl2, rfl, _, rfl, ?_⟩
            rw [dec_int, show (m' == m) = false from by simpa using hm']
            exact iteT ⟨_, rfl, fun d hd => kF _ d (Same.put S3 hd) (Same.free S3 hd) upd_same⟩
        · have hbk := hall i x (by omega) hx
          obtain ⟨t, ht1, ht2⟩ := bkm_isi T (hbk.same S3)
          obtain ⟨x0, hx0⟩ : ∃ x0, xs[0]? = some x0 := ⟨xs[0], by simp⟩
          obtain ⟨b1, dx1, fs1, rfl, hb1, hl1⟩ := bkf _ hbk
          obtain ⟨b2, dx2, fs2, rfl, hb2, hl2⟩ := (hall 0 x0 (by omega) hx0).same S3
          refine ⟨_, rfl, _, _, t, _, _, rfl, .own _, ht1, ht2, _, rfl, ?_⟩
          refine iteF ⟨_, rfl, b1, _, _, _, _, rfl, hb1, T.clB, T.nB1, hl1, _, rfl, a, _, _, _, rfl, rfl, (hs1.same s3).sq, atI0 hx0, b2, _, _, _, _, rfl, hb2, T.clB, T.nB1, hl2, rfl, _, rfl, ?_⟩
          rw [dec_int, show (m == m) = true from by simp]
          exact iteF ⟨_, _, rfl, s3, .inl ⟨j, m, y, by omega, hy, kF, hall, hbad⟩⟩
      · have hbk := hall x (List.mem_of_getElem? hx)
        obtain ⟨t, ht1, ht2⟩ := bkm_isi T (hbk.same S3)
        obtain ⟨x0, hx0⟩ : ∃ x0, xs[0]? = some x0 := ⟨xs[0], by simp⟩
        obtain ⟨b1, dx1, fs1, rfl, hb1, hl1⟩ := bkf _ hbk
        obtain ⟨b2, dx2, fs2, rfl, hb2, hl2⟩ := (hall x0 (List.mem_of_getElem? hx0)).same S3
        refine ⟨_, rfl, _, _, t, _, _, rfl, .own _, ht1, ht2, _, rfl, ?_⟩
        refine iteF ⟨_, rfl, b1, _, _, _, _, rfl, hb1, T.clB, T.nB1, hl1, _, rfl, a, _, _, _, rfl, rfl, (hs1.same s3).sq, atI0 hx0, b2, _, _, _, _, rfl, hb2, T.clB, T.nB1, hl2, rfl, _, rfl, ?_⟩
        rw [dec_int, show (m == m) = true from by simp]
        exact iteF ⟨_, _, rfl, s3, .inr ⟨m, hall, k⟩⟩
    · rintro σ H2 ⟨v1, v2, rfl, s2, hc⟩
      rcases hc with ⟨j, m, y, hle, hy, _⟩ | ⟨m, hall, k⟩
      · have := (List.getElem?_eq_some_iff.mp hy).1
        omega
      · refine ⟨_, rfl, a, xs, rfl, ?_⟩
        rcases hs1 with h | h
        · exact .inl ⟨SqL.of (s2 _ _ h), fun l hl => k l _ (Same.put (s1.trans s2) hl) upd_same⟩
        · exact .inr ⟨SqT.of (s2 _ _ h), k a _ (s1.trans s2) (s2 _ _ h)⟩
theorem ok_need_steady_books (T : Txt P K mg c.CB c.CL c.C1 c.C2 c.C3 c.C4 f1 f2 f3 f4 t9 t6) (d_need_steady : Dn P w K mg base (L2.CX P w) 6 "need_steady" ["value"] (sp_need_steady c)) {f : Addr} {fd : FuncData} (F : Fun K "need_steady_books" "need_steady_books" s_need_steady_books f fd) : FnOk P w K mg base (L2.CX P w) 7 f fd ["books"] (sp_need_steady_books c) := by
  refine F.okX sc_need_steady_books (fun vs H Q E h => ?_) (fun cdv A outer s H vs Q E hr h => ?_)
  · obtain ⟨t, as, m, bs, rfl, ht, hbs, h0, h6, kT, kF⟩ := h
    rfl
  · obtain ⟨t, as, m, bs, rfl, ht, hbs, h0, h6, kT, kF⟩ := h
    refine ⟨_, (pss_one (ps_for (passes_of rfl) rfl (pi_tupK (K := K) rfl (pv 0)) (pg_name (i := 1) sc_need_steady_books.nd rfl (Or.inl rfl))
    (pss_one (ps_expr (pe_dn d_need_steady (hr.mono (by decide)) (fun σ => passAt (takes_of rfl rfl rfl rfl) σ) (pa_cons (pv 1) pa_nil)))))), ?_⟩
    have hlen := Paired.len' hbs
    refine ⟨_, rfl, t, rfl, ⟨_, SqT.of ht⟩, for_tup (K := K) (a := t) (xs := as.map V.ref) (fun i σ H' => ∃ v : Option V, σ = [some (.ref t), v] ∧ Same H H' ∧ ∀ p ∈ bs.take i, steadyB m p.1 p.2 = true)
      ⟨none, rfl, Same.refl _, fun p hp => (by rw [List.take_zero] at hp; cases hp)⟩ (fun i σ H' _ ⟨_, _, s', _⟩ => SqT.of (s' _ _ ht)) ?_ ?_⟩
    · rintro i v σ H' hv ⟨w, rfl, s', hall⟩
      rw [List.getElem?_map] at hv
      obtain ⟨b, hb, rfl⟩ := Option.map_eq_some_iff.mp hv
      obtain ⟨p, hp, hbk⟩ := Paired.at hbs hb
      refine ⟨_, rfl, b, m, p.1, p.2, rfl, hbk.at_.same s', h0, h6, hbk.k3, fun e H2 s2 => ⟨_, rfl, s'.trans s2, fun q hq => ?_⟩, fun e => fun H2 d s2 hd he => kF ⟨p, List.mem_of_getElem? hp, e⟩ H2 d (s'.trans s2) (Same.free s' hd) he⟩
      rw [take_more1 hp] at hq
      rcases List.mem_append.mp hq with r | r
      · exact hall q r
      · rw [List.mem_singleton.mp r]; exact e
    · rintro σ H' ⟨w, rfl, s', hall⟩
      rw [List.length_map, hlen, List.take_length] at hall
      exact kT hall H' s'
end
end Ws
end
section
set_option Elab.async false
set_option linter.all false
set_option maxRecDepth 100000
set_option maxHeartbeats 4000000
namespace Ws
open PySem PySem.Spec PyProof.Rows L2
set_option autoImplicit false
/-! K36: need_roads. -/
def kPair (H : Hp) : V → Int × Int
  | .ref a => match H a with
    | some (.tup [.int i, .int j]) => (i, j)
    | _ => (0, 0)
  | _ => (0, 0)
theorem kPair_of {H : Hp} {a : Addr} {p : Int × Int} (h : TupI H a (pr p)) : kPair H (.ref a) = p := by
  have h' : H a = some (.tup [.int p.1, .int p.2]) := h
  show (match H a with
    | some (.tup [.int i, .int j]) => (i, j)
    | _ => (0, 0)) = p
  rw [h']
theorem kPair_map {H : Hp} : ∀ {as : List Addr} {rs : List (Int × Int)}, Lots H as (rs.map pr) → (as.map V.ref).map (kPair H) = rs ∧ ∀ x ∈ as.map V.ref, ∃ t, x = .ref t ∧ H t = some (.tup [.int (kPair H x).1, .int (kPair H x).2])
  | [], [], _ => ⟨rfl, fun x h => by cases h⟩
  | [], _ :: _, h => by cases h
  | _ :: _, [], h => by cases h
  | a :: as, p :: rs, h => by
    cases h with
    | cons h1 h2 =>
      obtain ⟨i1, i2⟩ := kPair_map h2
      have e := kPair_of h1
      refine ⟨?_, fun x hx => ?_⟩
      · show kPair H (.ref a) :: (as.map V.ref).map (kPair H) = _
        rw [e, i1]
      · rcases List.mem_cons.mp hx with rfl | hx
        · exact ⟨a, rfl, by rw [e]; exact h1⟩
        · exact i2 x hx
/-- what the sort gives -/
theorem sort_roads {H : Hp} {as : List Addr} {rs : List (Int × Int)} {ys : List V} (h : Lots H as (rs.map pr)) (h1 : SrtO.Srtd (ltP (kPair H)) ys) (h2 : SrtO.Stb (ltP (kPair H)) ys (as.map V.ref)) :
    ∃ (bs : List Addr) (rs' : List (Int × Int)), ys = bs.map V.ref ∧ Lots H bs (rs'.map pr) ∧ rs'.Perm rs ∧ rs'.Pairwise rdLe := by
  obtain ⟨e1, e2⟩ := kPair_map h
  have hall : ∀ x ∈ ys, ∃ t, x = .ref t ∧ H t = some (.tup [.int (kPair H x).1, .int (kPair H x).2]) := fun x hx => e2 x (h2.perm.mem_iff.mp hx)
  have hp : (ys.map (kPair H)).Perm rs := by rw [← e1]; exact h2.perm.map _
  have hs : (ys.map (kPair H)).Pairwise rdLe := by
    refine List.pairwise_map.mpr (List.Pairwise.imp (fun {a b} q => ?_) h1)
    have := SrtO.lexB_no.mp q
    unfold rdLe
    omega
  have conv : ∀ zs : List V, (∀ x ∈ zs, ∃ t, x = .ref t ∧ H t = some (.tup [.int (kPair H x).1, .int (kPair H x).2])) → ∃ bs : List Addr, zs = bs.map V.ref ∧ Lots H bs ((zs.map (kPair H)).map pr) := by
    intro zs hz
    induction zs with
    | nil => exact ⟨[], rfl, .nil⟩
    | cons z zs ih =>
      obtain ⟨bs, i1, i2⟩ := ih fun x hx => hz x (List.mem_cons_of_mem _ hx)
      obtain ⟨t, et, ht⟩ := hz z List.mem_cons_self
      exact ⟨t :: bs, by rw [i1, et]; rfl, .cons ht i2⟩
  obtain ⟨bs, c1, c2⟩ := conv ys hall
  exact ⟨bs, _, c1, c2, hp, hs⟩
theorem RdAt.uniq {H : Hp} {x : V} {p q : Int × Int} (h : RdAt H x p) (k : RdAt H x q) : p = q := by
  obtain ⟨a, rfl, h⟩ := h
  obtain ⟨b, e, k⟩ := k
  cases e
  have : ([V.int p.1, V.int p.2] : List V) = [V.int q.1, V.int q.2] := by
    rcases h with h | h <;> rcases k with k | k <;> rw [h] at k <;> have k := Option.some.inj k <;> first | exact HO.lst.inj k | exact HO.tup.inj k | cases k
  obtain ⟨e1, e2⟩ := List.cons.inj this
  obtain ⟨e2, _⟩ := List.cons.inj e2
  cases p; cases q
  simp only [V.int.injEq] at e1 e2
  rw [e1, e2]
theorem mem_pr {p : Int × Int} {rs : List (Int × Int)} : pr p ∈ rs.map pr ↔ p ∈ rs := by
  constructor
  · intro h
    obtain ⟨q, hq, e⟩ := List.mem_map.mp h
    have : q = p := by
      cases p; cases q
      simp only [pr, List.cons.injEq, and_true] at e
      rw [e.1, e.2]
    rw [← this]; exact hq
  · exact fun h => List.mem_map.mpr ⟨p, h, rfl⟩
/-- what a given road is -/
def ElAt (E : XK) (c : Cs) (H : Hp) (n : Int) (rs : List (Int × Int)) (i : Nat) (x : V) : Prop :=
  (Kd H x ∧ isS x = false ∧ Raise E c.C2 H (.int (i : Int))) ∨ (∃ a ys, x = .ref a ∧ Seq H a ys ∧ ys.length ≠ 2 ∧ Raise E c.C2 H (.int (i : Int))) ∨
  (∃ a y z, x = .ref a ∧ Seq H a [y, z] ∧ Kd H y ∧ Kd H z ∧ (((isB n y && isB n z) = false ∧ Raise E c.C2 H (.int (i : Int))) ∨
    ∃ p : Int × Int, y = .int p.1 ∧ z = .int p.2 ∧ (isB n y && isB n z) = true ∧ (((p.1 = p.2 ∨ p ∈ rs.take i) ∧ Raise E c.C2 H (.int (i : Int))) ∨ (p.1 ≠ p.2 ∧ p ∉ rs.take i ∧ rs[i]? = some p))))
section
variable {P : Program} {w : World} {K : PySem.W.Frag} {mg : Str → Option Value} {base : Heap} {c : Cs} {f1 f2 f3 f4 : Addr} {t9 t6 : Tok}
theorem lc_two {a : Addr} {H1 : Hp} {σ : L2.St} {i : Nat} {tt : TT} {te : TE} {Qd : Addr → Hp → Prop} {y z : V} (b : V → Bool) (hT : Seq H1 a [y, z]) 
    (ht : ∀ x, ∀ H', Same H1 H' → ∀ Rb : Bool → Hp → Prop, (∀ H'', Same H' H'' → Rb true H'') → tt ((wipe σ [i]).set i (some x)) H' Rb)
    (he : ∀ x, (x = y ∨ x = z) → ∀ H', Same H1 H' → ∀ Rq : VK, (∀ H'', Same H' H'' → Rq (.bl (b x)) H'') → te ((wipe σ [i]).set i (some x)) H' Rq)
    (hd : ∀ D H', H1 D = none → Same H1 H' → H' D = some (.lst ([b y, b z].map V.bl)) → Qd D H') :
    ((∃ xs, SqL K H1 a xs) ∧ ∀ D, H1 D = none → ∃ W : Nat → Nat → Hp → Prop, (∃ m, W 0 m (upd H1 D (.lst []))) ∧ ∀ i' m H, W i' m H →
      ((Itl K a).stop i' H ∧ Qd D H) ∨ ((Itl K a).go i' H ∧ ∃ Nx : Hp → Prop, (∀ H', Nx H' → ∃ m', m' < m ∧ W (i' + 1) m' H') ∧ ∀ x H', (Itl K a).yld i' H x H' → gName i x (wipe σ [i]) H' fun σ2 H2 => wipe σ2 [i] = wipe σ [i] ∧ tt σ2 H2 fun b H3 =>
        if b = true then te σ2 H3 fun y H4 => ∃ acc, H4 D = some (.lst acc) ∧ acc.length < sizeLine ∧ Nx (upd H4 D (.lst (acc ++ [y]))) else Nx H3)) ∨
    ((∃ xs, SqT K H1 a xs) ∧ ∀ D, H1 D = none → ∃ W : Nat → Nat → Hp → Prop, (∃ m, W 0 m (upd H1 D (.lst []))) ∧ ∀ i' m H, W i' m H →
      ((Itt K a).stop i' H ∧ Qd D H) ∨ ((Itt K a).go i' H ∧ ∃ Nx : Hp → Prop, (∀ H', Nx H' → ∃ m', m' < m ∧ W (i' + 1) m' H') ∧ ∀ x H', (Itt K a).yld i' H x H' → gName i x (wipe σ [i]) H' fun σ2 H2 => wipe σ2 [i] = wipe σ [i] ∧ tt σ2 H2 fun b H3 =>
        if b = true then te σ2 H3 fun y H4 => ∃ acc, H4 D = some (.lst acc) ∧ acc.length < sizeLine ∧ Nx (upd H4 D (.lst (acc ++ [y]))) else Nx H3)) := by
  have fin : ∀ D, H1 D = none → ∀ ys H', Same H1 H' → H' D = some (.lst ys) → Paired (fun x w => w = V.bl (b x)) ([y, z].filter fun _ => true) ys → Qd D H' := fun D hD ys H' s' h1 p => by
    rw [filter_tt] at p
    refine hd D H' hD s' ?_
    rw [h1]
    cases p with
    | cons e1 p => cases p with
      | cons e2 p => cases p with
        | nil => rw [e1, e2]; rfl
  rcases hT with h | h
  · exact .inl ⟨⟨_, SqL.of h⟩, fun D hD => lc_fmL [y, z] id (fun _ => true) (fun x w _ => w = V.bl (b x)) (fun _ _ _ _ _ r => r) h hD (by simp) (fun x _ => ht x) (fun x hx _ H' s' Rq kq => he x (by simpa using hx) H' s' Rq fun H2 s2 => kq _ H2 s2 rfl) (fin D hD)⟩
  · exact .inr ⟨⟨_, SqT.of h⟩, fun D hD => lc_fmT [y, z] id (fun _ => true) (fun x w _ => w = V.bl (b x)) (fun _ _ _ _ _ r => r) h hD (by simp) (fun x _ => ht x) (fun x hx _ H' s' Rq kq => he x (by simpa using hx) H' s' Rq fun H2 s2 => kq _ H2 s2 rfl) (fin D hD)⟩
theorem ok_need_roads (T : Txt P K mg c.CB c.CL c.C1 c.C2 c.C3 c.C4 f1 f2 f3 f4 t9 t6) (d_is_below : Dn P w K mg base CX0 3 "is_below" ["value", "many"] (sp_is_below c)) (d_is_sequence : Dn P w K mg base CX0 1 "is_sequence" ["value"] (sp_is_sequence c)) {f : Addr} {fd : FuncData} (F : Fun K "need_roads" "need_roads" s_need_roads f fd) : FnOk P w K mg base (L2.CX P w) 4 f fd ["value", "hands"] (sp_need_roads c) := by
  refine F.okX sc_need_roads (fun vs H Q E h => ?_) (fun cdv A outer s H vs Q E hr h => ?_)
  · obtain ⟨v, n, rfl, hv⟩ := h
    rfl
  · obtain ⟨v, n, rfl, hv⟩ := h
    refine ⟨_, (pss_cons (ps_if (pt_not (pt_val (pe_dn d_is_sequence (hr.mono (by decide)) pA0 (pa_cons (pv 0) pa_nil))))
    (pss_one (ps_raiseX rfl T.x_InvalidRoads hr (takes_of rfl rfl rfl rfl) (pe_un un_neg pe_int)))
    pss_nil)
    (pss_cons (ps_set (i := 2) sc_need_roads.nd rfl (Or.inl rfl) (pe_lst pa_nil))
    (pss_cons (ps_for (passes_of rfl) rfl (pi_enumA (by rfl) T.g_enumerate (pa_cons (pv 0) pa_nil)) (pg_tupK (K := K) rfl rfl (pgs_cons (pg_name (i := 3) sc_need_roads.nd rfl (Or.inl rfl)) (pgs_cons (pg_name (i := 4) sc_need_roads.nd rfl (Or.inl rfl)) pgs_nil)))
    (pss_cons (ps_if (PW.pt (pw_or (pt_not (pt_val (pe_dn d_is_sequence (hr.mono (by decide)) pA0 (pa_cons (pv 4) pa_nil)))) (pw_or (pt_cmpR op_ne (pe_callB (call_lenA (K := K) rfl) (by rfl) T.g_len (by decide +kernel) (pa_cons (pv 4) pa_nil)) pe_int (nomark _)) (pw_or1 (pt_not (pt_val (pe_callB (cr_all rfl) (by rfl) T.g_all (by decide +kernel) (pa_cons (pe_lc (own := [("hand", 5)]) (g := (gName 5)) (tt := tYes) rfl sc_need_roads.nd (pi_seq (pv 4)) (blkOk_by (N := ["value", "hands", "roads", "at", "road", "hand"]) (sc := defScope s_need_roads) (by decide +kernel)) (fun _ _ _ _ _ => (pg_name (i := 5) sc_need_roads.nd rfl (Or.inl rfl))) (fun _ _ _ _ _ => pts_nil) (fun _ _ _ _ _ => (pe_dn d_is_below (hr.mono (by decide)) pA0 (pa_cons (pv 5) (pa_cons (pv 1) pa_nil))))) pa_nil))))))))
    (pss_one (ps_raiseX rfl T.x_InvalidRoads hr (takes_of rfl rfl rfl rfl) (pv 3)))
    pss_nil)
    (pss_cons (ps_if (PW.pt (pw_or (pt_cmpR op_eq (pe_ix (ix_A (K := K) rfl) (pv 4) pe_int (fun _ _ => rfl)) (pe_ix (ix_A (K := K) rfl) (pv 4) pe_int (fun _ _ => rfl)) (nomark _)) (pw_or1 (pt_cmpR (op_inD (un65 hr)) (pe_callTy (call_tupleA (K := K) rfl) (by rfl) T.g_tuple (by decide +kernel) (pa_cons (pv 4) pa_nil)) (pv 2) (by rfl)))))
    (pss_one (ps_raiseX rfl T.x_InvalidRoads hr (takes_of rfl rfl rfl rfl) (pv 3)))
    pss_nil)
    (pss_one (ps_expr (pe_bm PySem.F.plainAttrs_list PySem.F.slot_list_append PySem.F.type_list_append mt_append (pv 2) (pa_cons (pe_callTy (call_tupleA (K := K) rfl) (by rfl) T.g_tuple (by decide +kernel) (pa_cons (pv 4) pa_nil)) pa_nil)))))))
    (pss_one (ps_ret (pe_callTy (call_tupleA (K := K) rfl) (by rfl) T.g_tuple (by decide +kernel) (pa_cons (pe_callB cr_sortedPO (by rfl) T.g_sorted (by decide +kernel) (pa_cons (pv 2) pa_nil)) pa_nil))))))), ?_⟩
    have hkd : Kd H v := by
      rcases hv with ⟨at_, hb | hb, _⟩ | ⟨rs, ⟨a, xs, rfl, hs, _⟩, _⟩
      · exact hb.1
      · obtain ⟨a, xs, _, _, _, rfl, hs, _⟩ := hb
        exact ⟨xs, hs⟩
      · exact ⟨xs, hs⟩
    have hn : (isS v = false ∧ Raise E c.C2 H (.int (-1))) ∨ ∃ (a : Addr) (xs : List V) (N : Nat) (rs : List (Int × Int)), v = .ref a ∧ Seq H a xs ∧ xs.length ≤ 1000 ∧ N ≤ xs.length ∧ rs.length = N ∧
        (∀ i x, i < N → xs[i]? = some x → ElAt E c H n rs i x) ∧ (∀ x, xs[N]? = some x → ElAt E c H n rs N x) ∧ (xs.length = N → ∀ (t : Addr) (rs' : List (Int × Int)) (H' : Hp), Same H H' → rs'.Perm rs → rs'.Pairwise rdLe → LotT H' t (rs'.map pr) → Q (.ref t) H') := by
      have good : ∀ {xs : List V} {N : Nat} {rs : List (Int × Int)}, N ≤ xs.length → Paired (RdAt H) (xs.take N) rs → (∀ p ∈ rs, RdOk n p) → rs.Nodup → rs.length = N ∧ ∀ i x, i < N → xs[i]? = some x → ElAt E c H n rs i x := fun {xs N rs} hle hp hok hnd => by
        have hl := Paired.len' hp
        rw [List.length_take] at hl
        refine ⟨by omega, fun i x hi hx => ?_⟩
        obtain ⟨p, h1, a, rfl, hs⟩ := Paired.at hp (show (xs.take N)[i]? = some x by rw [List.getElem?_take, if_pos hi]; exact hx)
        have hpo := hok p (List.mem_of_getElem? h1)
        unfold RdOk at hpo
        refine .inr (.inr ⟨a, _, _, rfl, hs, trivial, trivial, .inr ⟨p, rfl, rfl, ?_, .inr ⟨hpo.2.2.2.2, fun hm => ?_, h1⟩⟩⟩)
        · simp only [isB, Bool.and_eq_true, decide_eq_true_eq]; omega
        · obtain ⟨j, hj⟩ := List.mem_iff_getElem?.mp hm
          have hj' := hj
          rw [List.getElem?_take] at hj
          split at hj
          · rename_i hji
            exact absurd ((List.getElem?_inj (List.getElem?_eq_some_iff.mp hj).1 hnd).mp (hj.trans h1.symm)) (by omega)
          · cases hj
      rcases hv with ⟨at_, hb | hb, hR⟩ | ⟨rs, ⟨a, xs, rfl, hs, hl, hp, hok, hnd⟩, k⟩
      · obtain ⟨_, e, rfl⟩ := hb
        exact .inl ⟨e, hR⟩
      · obtain ⟨a, xs, j, y, rs, rfl, hs, hl, hy, rfl, hp, hok, hnd, hbad⟩ := hb
        have hj := (List.getElem?_eq_some_iff.mp hy).1
        obtain ⟨g1, g2⟩ := good (Nat.le_of_lt hj) hp hok hnd
        refine .inr ⟨a, xs, j, rs, rfl, hs, hl, Nat.le_of_lt hj, g1, g2, fun x hx => ?_, fun e => absurd e (by omega)⟩
        rw [hy] at hx
        cases hx
        rcases hbad with ⟨h1, h2⟩ | ⟨a, ys, rfl, h1, h2⟩ | ⟨a, y, z, rfl, h1, h2, h3, h4⟩ | ⟨p, ⟨a, rfl, h1⟩, h2⟩
        · exact .inl ⟨h1, h2, hR⟩
        · exact .inr (.inl ⟨a, ys, rfl, h1, h2, hR⟩)
        · exact .inr (.inr ⟨a, y, z, rfl, h1, h2, h3, .inl ⟨h4, hR⟩⟩)
        · refine .inr (.inr ⟨a, _, _, rfl, h1, trivial, trivial, .inr ⟨p, rfl, rfl, ?_, .inl ⟨?_, hR⟩⟩⟩)
          · simp only [isB, Bool.and_eq_true, decide_eq_true_eq]; omega
          · rw [← g1, List.take_length]; exact h2.2.2.2.2
      · have hl' := Paired.len' hp
        obtain ⟨g1, g2⟩ := good (Nat.le_refl xs.length) (by rw [List.take_length]; exact hp) hok hnd
        refine .inr ⟨a, xs, xs.length, rs, rfl, hs, hl, Nat.le_refl _, g1, g2, fun x hx => absurd (List.getElem?_eq_some_iff.mp hx).1 (by omega), fun _ => k⟩
    clear hv
    refine ⟨_, rfl, v, rfl, hkd, fun H1 s1 => ⟨_, rfl, ?_⟩⟩
    rcases hn with ⟨e, kF⟩ | ⟨a, xs, N, rs, rfl, hs, hl, hN, hrlen, hgo, hN', hfin⟩
    · rw [e]
      exact iteT ⟨_, rfl, fun d hd => kF _ d (Same.put s1 hd) (Same.free s1 hd) upd_same⟩
    have hs1 := hs.same s1
    show (if (!isS (.ref a)) = true then _ else _)
    refine iteF ⟨Nat.zero_le _, fun rl hrl => ?_⟩
    have s2 : Same H1 (upd H1 rl (.lst [])) := Same.new hrl
    have hrl0 := Same.free s1 hrl
    refine ⟨_, rfl, a, xs, rfl, for_enS (K := K) (hs1.same s2) (fun i σ H' => ∃ v3 v4 : Option V, σ = [some (.ref a), some (.int n), some (.ref rl), v3, v4, none] ∧ Same H H' ∧ LotL H' rl ((rs.take i).map pr) ∧ i ≤ N)
      ⟨none, none, rfl, s1.trans s2, ⟨[], upd_same, .nil⟩, Nat.zero_le _⟩ (fun i σ H' ⟨_, _, _, s', _⟩ o e => (by
        rcases hs with h | h <;> rw [(s1.trans s2) _ _ h] at e <;> cases e <;> exact s' _ _ h)) ?_ ?_⟩
    · rintro i x σ H2 b hx ⟨v3, v4, rfl, s3, ⟨as, has, hlots⟩, hle⟩ hb
      have s4 : Same H (upd H2 b (.tup [.int (i : Nat), x])) := Same.put s3 hb
      have nrl : b ≠ rl := fun z => by rw [z, has] at hb; cases hb
      have hel : ElAt E c H n rs i x := by
        by_cases e : i < N
        · exact hgo i x e hx
        · have e' : i = N := by omega
          subst e'
          exact hN' x hx
      refine ⟨b, _, rfl, SqT.of upd_same, rfl, _, _, rfl, _, _, rfl, rfl, ?_⟩
      have hkx : Kd H x := by
        rcases hel with h | ⟨a, ys, rfl, h, _⟩ | ⟨a, y, z, rfl, h, _⟩
        · exact h.1
        · exact ⟨_, h⟩
        · exact ⟨_, h⟩
      have hasB : (upd H2 b (.tup [.int (i : Nat), x])) rl = some (.lst (as.map V.ref)) := by rw [upd_ne (Ne.symm nrl)]; exact has
      have hlotsB : Lots (upd H2 b (.tup [.int (i : Nat), x])) as ((rs.take i).map pr) := hlots.same (Same.new hb)
      refine ⟨_, rfl, x, rfl, hkx.same s4, fun H3 s5 => ⟨_, rfl, ?_⟩⟩
      have S5 := s4.trans s5
      rcases hel with ⟨_, e, kF⟩ | ⟨a2, ys, rfl, hs2, hne, kF⟩ | ⟨a2, y, z, rfl, hs2, hky, hkz, hc⟩
      · rw [e]
        exact iteT ⟨_, rfl, fun d hd => kF _ d (Same.put S5 hd) (Same.free S5 hd) upd_same⟩
      · show (if (!isS (.ref a2)) = true then _ else _)
        refine iteF ⟨_, rfl, a2, ys, rfl, (hs2.same S5).sq, rfl, _, rfl, ?_⟩
        rw [dec_int, show ((ys.length : Int) == 2) = false from by simp only [beq_eq_false_iff_ne]; omega]
        exact iteT ⟨_, rfl, fun d hd => kF _ d (Same.put S5 hd) (Same.free S5 hd) upd_same⟩
      · show (if (!isS (.ref a2)) = true then _ else _)
        refine iteF ⟨_, rfl, a2, _, rfl, (hs2.same S5).sq, rfl, _, rfl, ?_⟩
        rw [dec_int, show (((([y, z] : List V).length : Nat) : Int) == 2) = true from rfl]
        refine iteF ⟨_, rfl, a2, rfl, ?_⟩
        refine lc_two (isB n) (hs2.same S5) (fun w H' s' Rb kb => kb _ (Same.refl _)) (fun w hw H' s' Rq kq => ?_) fun D H4 hD s6 hDy => ?_
        · refine ⟨_, rfl, _, rfl, w, n, rfl, ?_, kq _ (Same.refl _)⟩
          rcases hw with rfl | rfl
          · exact hky.same (S5.trans s')
          · exact hkz.same (S5.trans s')
        have S6 := S5.trans s6
        refine ⟨D, _, rfl, SqL.of hDy, _, rfl, ?_⟩
        rw [show ([isB n y, isB n z].all id) = (isB n y && isB n z) by simp]
        rcases hc with ⟨e, kF⟩ | ⟨p, rfl, rfl, e, hc⟩
        · rw [e]
          exact iteT ⟨_, rfl, fun d hd => kF _ d (Same.put S6 hd) (Same.free S6 hd) upd_same⟩
        · rw [e]
          have hs6 := hs2.same S6
          refine iteF ⟨_, rfl, a2, _, _, _, rfl, rfl, hs6.sq, atI0 rfl, _, rfl, a2, _, _, _, rfl, rfl, hs6.sq, atI1 rfl, rfl, _, rfl, ?_⟩
          rw [dec_int]
          have tp : ∀ (H5 : Hp), Same H H5 → ∀ Q : VK, (∀ t H6, Same H5 H6 → TupI H6 t (pr p) → Q (.ref t) H6) → rTupOf K [V.ref a2] H5 Q := fun H5 s Q q => by
            refine ⟨a2, [.int p.1, .int p.2], rfl, ?_⟩
            rcases hs2.same s with h | h
            · exact .inl ⟨SqL.of h, fun l hl => q l _ (Same.new hl) upd_same⟩
            · exact .inr ⟨SqT.of h, q a2 H5 (Same.refl _) h⟩
          have hasD : H4 rl = some (.lst (as.map V.ref)) := s6 _ _ (s5 _ _ hasB)
          have hlotsD : Lots H4 as ((rs.take i).map pr) := (hlotsB.same s5).same s6
          have his : (rs.take i).length ≤ 1000 := by rw [List.length_take]; omega
          by_cases ne : p.1 = p.2
          · rw [show (p.1 == p.2) = true from by simpa using ne]
            rcases hc with ⟨_, kF⟩ | ⟨n1, _⟩
            · exact iteT ⟨_, rfl, fun d hd => kF _ d (Same.put S6 hd) (Same.free S6 hd) upd_same⟩
            · exact absurd ne n1
          · rw [show (p.1 == p.2) = false from by simpa using ne]
            refine iteF ⟨_, rfl, ?_⟩
            dsimp only [tNil]
            refine tp _ S6 _ fun t H6 s7 ht => ?_
            have S7 := S6.trans s7
            have hLL : LotL H6 rl ((rs.take i).map pr) := ⟨as, s7 _ _ hasD, hlotsD.same s7⟩
            refine ⟨_, rfl, lotD (pr p), lotsD ((rs.take i).map pr), dp_lot ht, dp_lotL hLL, sh_lot _, sh_lotL _, _, rfl, ?_⟩
            rw [any_lots]
            by_cases hin : p ∈ rs.take i
            · rw [decide_eq_true (mem_pr.mpr hin)]
              rcases hc with ⟨_, kF⟩ | ⟨_, n2, _⟩
              · exact iteT ⟨_, rfl, fun d hd => kF _ d (Same.put S7 hd) (Same.free S7 hd) upd_same⟩
              · exact absurd hin n2
            · rw [decide_eq_false (fun z => hin (mem_pr.mp z))]
              rcases hc with ⟨h | h, _⟩ | ⟨_, _, hat⟩
              · exact absurd h ne
              · exact absurd h hin
              · refine iteF ⟨_, rfl, .inl ⟨rfl, _, SqL.of (s7 _ _ hasD)⟩, _, rfl, ?_⟩
                dsimp only [tNil]
                refine tp _ S7 _ fun t2 H7 s8 ht2 => ?_
                have S8 := S7.trans s8
                refine ⟨rl, _, _, rfl, rfl, s8 _ _ (s7 _ _ hasD), ?_, ?_⟩
                · have := Paired.len' hlots
                  rw [List.length_map] at this
                  rw [List.length_map]
                  exact small_lt (by omega)
                · have st : ∀ b r, TupI H7 b r → TupI (upd H7 rl (.lst (as.map V.ref ++ [.ref t2]))) b r := fun b r e => by
                    show upd _ rl _ b = _
                    rw [upd_ne (ne_of e (s8 _ _ (s7 _ _ hasD)) (by intro z; cases z))]
                    exact e
                  refine ⟨_, _, rfl, Same.chg S8 hrl0, ⟨as ++ [t2], ?_, ?_⟩, ?_⟩
                  · show upd _ rl _ rl = _
                    rw [upd_same, List.map_append]; rfl
                  · rw [take_more1 hat, List.map_append]
                    exact Paired.app (Paired.map' ((hlotsD.same s7).same s8) fun b r e => st b r e) (st _ _ ht2)
                  · have := (List.getElem?_eq_some_iff.mp hat).1
                    omega
    · rintro σ H2 ⟨v3, v4, rfl, s3, ⟨as, has, hlots⟩, hle⟩
      have e : xs.length = N := by omega
      rw [e, ← hrlen, List.take_length] at hlots
      refine ⟨_, rfl, rl, _, kPair H2, rfl, SqL.of has, (kPair_map hlots).2, fun ys p h1 h2 hp => ?_⟩
      obtain ⟨bs, rs', rfl, hb1, hb2, hb3⟩ := sort_roads hlots h1 h2
      refine ⟨p, _, rfl, .inl ⟨SqL.of upd_same, fun t ht => hfin e t rs' _ (Same.put (Same.put s3 hp) ht) hb2 hb3 ⟨bs, upd_same, hb1.same (Same.put (Same.new hp) ht)⟩⟩⟩
end
end Ws
end
section
set_option Elab.async false
set_option linter.all false
set_option maxRecDepth 100000
set_option maxHeartbeats 4000000
namespace Ws
open PySem PySem.Spec PyProof.Rows L2
set_option autoImplicit false
/-! K37: Book.__init__. -/
theorem for_ez {K : PySem.W.Frag} {a b : Addr} {H0 : Hp} {xs ys : List V} {g : TG} {tb : TS} {D : Ends} {σ : L2.St} {H : Hp} (h1 : H0 a = some (.lst xs)) (h2 : H0 b = some (.lst ys)) (hlen : xs.length = ys.length) (Pv : Nat → L2.St → Hp → Prop) (h0 : Pv 0 σ H) (hl : ∀ i σ H', Pv i σ H' → Same H0 H')
    (hs : ∀ i x y σ H U T, xs[i]? = some x → ys[i]? = some y → Pv i σ H → H U = none → upd H U (.tup [x, y]) T = none → g (.ref T) σ (upd (upd H U (.tup [x, y])) T (.tup [.int (i : Nat), .ref U])) fun σ2 H2 => tb { D with nx := Pv (i + 1), ct := Pv (i + 1), bk := D.nx } σ2 H2)
    (hd : ∀ σ H, Pv xs.length σ H → D.nx σ H) :
    ∃ W : Nat → Nat → L2.St → Hp → Prop, (∃ m, W 0 m σ H) ∧ ∀ i m σ H, W i m σ H →
      ((Itez K a b).stop i H ∧ D.nx σ H) ∨ ((Itez K a b).go i H ∧ ∃ N : L2.St → Hp → Prop, (∀ σ' H', N σ' H' → ∃ m', m' < m ∧ W (i + 1) m' σ' H') ∧ ∀ x H', (Itez K a b).yld i H x H' → g x σ H' fun σ2 H2 => tb { D with nx := N, ct := N, bk := D.nx } σ2 H2) := by
  refine ⟨fun i m σ H => m = xs.length - i ∧ i ≤ xs.length ∧ Pv i σ H, ⟨xs.length, by simp, Nat.zero_le _, h0⟩, ?_⟩
  rintro i m σ H ⟨rfl, hi, p⟩
  have s := hl i σ H p
  have q1 : SqL K H a xs := SqL.of (s _ _ h1)
  have q2 : SqL K H b ys := SqL.of (s _ _ h2)
  by_cases hlt : i < xs.length
  · have e1 : xs[i]? = some xs[i] := by simp [hlt]
    have e2 : ys[i]? = some (ys[i]'(by omega)) := by simp
    refine .inr ⟨⟨xs, ys, _, _, q1, q2, e1, e2⟩, Pv (i + 1), fun σ' H' p' => ⟨xs.length - (i + 1), by omega, rfl, hlt, p'⟩, fun x H' y => ?_⟩
    obtain ⟨T, U, x', y', rfl, hU, hT, rfl, hx, hy⟩ := y
    exact hs i x' y' σ H U T (hx xs q1) (hy ys q2) p hU hT
  · have e : i = xs.length := by omega
    subst e
    exact .inl ⟨⟨xs, ys, q1, q2, rfl⟩, hd σ H p⟩
def keyOf (s : List Int) : List Key := s.map Sum.inl
theorem keys_nodup {ss : List (List Int)} (h : ss.Nodup) : (ss.map keyOf).Nodup := by
  induction ss with
  | nil => exact List.nodup_nil
  | cons s r ih =>
    obtain ⟨h1, h2⟩ := List.nodup_cons.mp h
    refine List.nodup_cons.mpr ⟨fun m => ?_, ih h2⟩
    obtain ⟨t, ht, e⟩ := List.mem_map.mp m
    have := key_inj e
    rw [← this] at h1
    exact h1 ht
theorem val_zip (g : List Int → Int) {s : List Int} : ∀ {ss : List (List Int)}, s ∈ ss → valV ((ss.map keyOf).zip ((ss.map g).map V.int)) (keyOf s) = some (.int (g s))
  | [], h => by cases h
  | t :: r, h => by
    show valV ((keyOf t, V.int (g t)) :: (r.map keyOf).zip ((r.map g).map V.int)) (keyOf s) = _
    by_cases e : t = s
    · rw [valV_pos (show (keyOf t, V.int (g t)).1 = keyOf s from by rw [e]), e]
    · rw [valV_neg (show ¬ (keyOf t, V.int (g t)).1 = keyOf s from fun z => e (key_inj z))]
      exact val_zip g ((List.mem_cons.mp h).resolve_left fun z => e z.symm)
theorem put_book2 (m k : V) : putF ("places" : Str) k (putF ("many" : Str) m []) = [(("many" : Str), m), (("places" : Str), k)] := rfl
theorem put_book3 (m k g : V) : putF ("goers" : Str) g (putF ("places" : Str) k (putF ("many" : Str) m [])) = [(("many" : Str), m), (("places" : Str), k), (("goers" : Str), g)] := rfl
theorem put_book4 (m k g d : V) : putF ("by_lot" : Str) d (putF ("goers" : Str) g (putF ("places" : Str) k (putF ("many" : Str) m []))) = [(("many" : Str), m), (("places" : Str), k), (("goers" : Str), g), (("by_lot" : Str), d)] := rfl
section
variable {P : Program} {w : World} {K : PySem.W.Frag} {mg : Str → Option Value} {base : Heap} {c : Cs} {f1 f2 f3 f4 : Addr} {t9 t6 : Tok}
theorem ok_Book (T : Txt P K mg c.CB c.CL c.C1 c.C2 c.C3 c.C4 f1 f2 f3 f4 t9 t6) (d_is_below : Dn P w K mg base CX0 3 "is_below" ["value", "many"] (sp_is_below c)) (d_is_sequence : Dn P w K mg base CX0 1 "is_sequence" ["value"] (sp_is_sequence c)) (d_need_sizes : Dn P w K mg base CX0 3 "need_sizes" ["many", "places"] (sp_need_sizes c)) (d_rising_rows : Dn P w K mg base CX0 1 "rising_rows" ["many", "size"] (sp_rising_rows c)) {f : Addr} {fd : FuncData} (F : Fun K "__init__" "Book.__init__" s_Book f fd) : FnOk P w K mg base CX0 4 f fd ["self", "many", "places", "goers"] (sp_Book c) := by
  refine F.ok sc_Book (fun vs H Q E h => ?_) (fun cdv A outer s H vs Q E hr h => ?_)
  · obtain ⟨x, l, dx, m, n, g, rfl, hx, hl, h2, h6, h1, h4, hnm, hg, k⟩ := h
    rfl
  · obtain ⟨x, l, dx, m, n, g, rfl, hx, hl, h2, h6, h1, h4, hnm, hg, k⟩ := h
    refine ⟨_, (pss_cons (ps_expr (pe_dn d_need_sizes (hr.mono (by decide)) pA0 (pa_cons (pv 1) (pa_cons (pv 2) pa_nil))))
    (pss_cons (ps_set (i := 4) sc_Book.nd rfl (Or.inl rfl) (pe_dn d_rising_rows (hr.mono (by decide)) pA0 (pa_cons (pv 1) (pa_cons (pe_op op_add (pv 2) pe_int) pa_nil))))
    (pss_cons (ps_if (PW.pt (pw_or (pt_not (pt_val (pe_dn d_is_sequence (hr.mono (by decide)) pA0 (pa_cons (pv 3) pa_nil)))) (pw_or1 (pt_cmpR op_ne (pe_callB (call_lenA (K := K) rfl) (by rfl) T.g_len (by decide +kernel) (pa_cons (pv 3) pa_nil)) (pe_callB (call_lenA (K := K) rfl) (by rfl) T.g_len (by decide +kernel) (pa_cons (pv 4) pa_nil)) (nomark _)))))
    (pss_one ps_never)
    pss_nil)
    (pss_cons (ps_for PassesOwn.never rfl (pi_enumZip rfl T.g_enumerate rfl T.g_zip (pa_cons (pv 4) (pa_cons (pv 3) pa_nil))) (pg_tupK (K := K) rfl rfl (pgs_cons (pg_name (i := 5) sc_Book.nd rfl (Or.inl rfl)) (pgs_cons (pg_tupK (K := K) rfl rfl (pgs_cons (pg_name (i := 6) sc_Book.nd rfl (Or.inl rfl)) (pgs_cons (pg_name (i := 7) sc_Book.nd rfl (Or.inl rfl)) pgs_nil))) pgs_nil)))
    (pss_one (ps_if (PW.pt (pw_or (pt_not (pt_val (pe_dn d_is_below (hr.mono (by decide)) pA0 (pa_cons (pv 7) (pa_cons (pv 1) pa_nil))))) (pw_or1 (pt_cmpR (op_notInK (K := K) rfl) (pv 7) (pv 6) (by rfl)))))
    (pss_one ps_never)
    pss_nil)))
    (pss_cons (ps_asg (pe_tup (pa_cons (pv 1) (pa_cons (pv 2) (pa_cons (pe_callTy (call_tupleA (K := K) rfl) (by rfl) T.g_tuple (by decide +kernel) (pa_cons (pv 3) pa_nil)) pa_nil)))) (pg_tupK (K := K) rfl rfl (pgs_cons (pg_fld (pv 0)) (pgs_cons (pg_fld (pv 0)) (pgs_cons (pg_fld (pv 0)) pgs_nil)))))
    (pss_one (ps_fld (pv 0) (pe_dictZip rfl (un8 hr) T.g_dict T.g_zip (pa_cons (pv 4) (pa_cons (pe_fldK (K := K) rfl (pv 0)) pa_nil))) rfl))))))), ?_⟩
    refine ⟨_, rfl, _, rfl, m, n, rfl, by omega, by omega, by omega, by omega, ?_⟩
    refine ⟨_, rfl, _, rfl, _, _, rfl, rfl, m, n + 1, by rfl, by omega, by omega, by omega, fun ll H1 s1 hll hL => ?_⟩
    obtain ⟨as, hL1, hL2⟩ := hL
    have hsm := rows_small (show 0 ≤ m by omega) h6 (show n + 1 ≤ 5 by omega)
    have hal := Paired.len' hL2
    have hl1 : ListI H1 l ((rows m (n + 1)).map g) := s1 _ _ hl
    refine ⟨_, rfl, _, rfl, ⟨_, .inl hl1⟩, fun H2 s2 => ⟨_, rfl, ?_⟩⟩
    have S2 := s1.trans s2
    refine iteF ⟨_, rfl, l, _, rfl, .inl (SqL.of (S2 _ _ hl)), _, rfl, ll, _, rfl, .inl (SqL.of (s2 _ _ hL1)), rfl, _, rfl, ?_⟩
    rw [dec_int]
    have hle : (((rows m (n + 1)).map g).map V.int).length = (as.map V.ref).length := by rw [List.length_map, List.length_map, List.length_map]; exact hal.symm
    rw [hle, show ((((as.map V.ref).length : Nat) : Int) == (((as.map V.ref).length : Nat) : Int)) = true by simp]
    refine iteF ⟨_, rfl, _, rfl, ll, l, _, _, rfl, SqL.of (s2 _ _ hL1), SqL.of (S2 _ _ hl), for_ez (K := K) (s2 _ _ hL1) (S2 _ _ hl) hle.symm (fun i σ H' => ∃ v5 v6 v7 : Option V, σ = [some (.ref x), some (.int m), some (.int (n : Int)), some (.ref l), some (.ref ll), v5, v6, v7] ∧ Same H2 H')
      ⟨none, none, none, rfl, Same.refl _⟩ (fun i σ H' ⟨_, _, _, _, s'⟩ => s') ?_ ?_⟩
    · rintro i u v σ H3 U T' hu hv ⟨v5, v6, v7, rfl, s3⟩ hU hT
      rw [List.getElem?_map] at hu hv
      obtain ⟨lt, hlt, rfl⟩ := Option.map_eq_some_iff.mp hu
      obtain ⟨gi, hgi, rfl⟩ := Option.map_eq_some_iff.mp hv
      rw [List.getElem?_map] at hgi
      obtain ⟨s', hs', rfl⟩ := Option.map_eq_some_iff.mp hgi
      obtain ⟨r, hr1, hr2⟩ := Paired.at hL2 hlt
      rw [hs'] at hr1
      cases hr1
      have hin := List.mem_of_getElem? hs'
      have hlot := mem_rows.mp hin
      have hgs := hg _ hin
      have hb := hlot.1.2 _ hgs
      have s4 : Same H3 (upd (upd H3 U (.tup [.ref lt, .int (g s')])) T' (.tup [.int (i : Nat), .ref U])) := Same.put (Same.new hU) hT
      have eU : (upd (upd H3 U (.tup [.ref lt, .int (g s')])) T' (.tup [.int (i : Nat), .ref U])) U = some (.tup [.ref lt, .int (g s')]) := (Same.new (o := .tup [.int (i : Nat), .ref U]) hT) _ _ upd_same
      have eL : TupI (upd (upd H3 U (.tup [.ref lt, .int (g s')])) T' (.tup [.int (i : Nat), .ref U])) lt s' := s4 _ _ (s3 _ _ (s2 _ _ hr2))
      refine ⟨T', _, rfl, SqT.of upd_same, rfl, _, _, rfl, _, _, rfl, ⟨U, _, rfl, SqT.of eU, rfl, _, _, rfl, _, _, rfl, rfl, rfl, ?_⟩⟩
      refine ⟨_, rfl, _, rfl, .int (g s'), m, rfl, trivial, _, rfl, ?_⟩
      rw [show isB m (.int (g s')) = true from by simp only [isB, Bool.and_eq_true, decide_eq_true_eq]; omega]
      refine iteF ⟨_, rfl, _, rfl, lt, _, rfl, .inr (SqT.of eL), rfl, flat_ints _, _, rfl, ?_⟩
      rw [inV_int, decide_eq_true hgs]
      exact iteF ⟨_, _, _, rfl, s3.trans s4⟩
    · rintro σ H3 ⟨v5, v6, v7, rfl, s3⟩
      have S3 := S2.trans s3
      refine ⟨_, rfl, _, rfl, _, rfl, l, _, rfl, .inl ⟨SqL.of (S3 _ _ hl), fun gt hgt => ⟨(by show 3 ≤ sizeLine; decide), fun q hq => ?_⟩⟩⟩
      have s4 : Same H3 (upd H3 gt (.tup (((rows m (n + 1)).map g).map V.int))) := Same.new hgt
      have egt : (upd H3 gt (.tup (((rows m (n + 1)).map g).map V.int))) gt = some (.tup (((rows m (n + 1)).map g).map V.int)) := upd_same
      generalize upd H3 gt (.tup (((rows m (n + 1)).map g).map V.int)) = H4 at hq s4 egt ⊢
      have S4 := S3.trans s4
      have s5 : Same H4 (upd H4 q (.tup [.int m, .int (n : Int), .ref gt])) := Same.new hq
      have eq5 : (upd H4 q (.tup [.int m, .int (n : Int), .ref gt])) q = some (.tup [.int m, .int (n : Int), .ref gt]) := upd_same
      refine ⟨q, _, rfl, SqT.of eq5, rfl, ?_⟩
      have S5 : Same H (upd H4 q (.tup [.int m, .int (n : Int), .ref gt])) := Same.trans S4 s5
      have egt5 := s5 _ _ egt
      have hll5 : (upd H4 q (.tup [.int m, .int (n : Int), .ref gt])) ll = some (.lst (as.map V.ref)) := s5 _ _ (s4 _ _ (s3 _ _ (s2 _ _ hL1)))
      have hlots5 : Lots (upd H4 q (.tup [.int m, .int (n : Int), .ref gt])) as (rows m (n + 1)) := (((hL2.same s2).same s3).same s4).same s5
      have hx5 := S5 _ _ hx
      have b5 : But x H (upd H4 q (.tup [.int m, .int (n : Int), .ref gt])) := fun b o _ e => S5 b o e
      generalize upd H4 q (.tup [.int m, .int (n : Int), .ref gt]) = H5 at S5 egt5 hll5 hlots5 hx5 b5 ⊢
      refine ⟨_, _, rfl, _, rfl, x, _, _, _, rfl, hx5, T.clB, T.nB1, by decide, _, _, rfl, _, rfl, x, _, _, _, rfl, upd_same, T.clB, T.nB2, by show 1 < 1000; decide, _, _, rfl, _, rfl, x, _, _, _, rfl, upd_same, T.clB, T.nB3, by rw [put_book2]; show 2 < 1000; decide, rfl, ?_⟩
      rw [put_book3, upd_upd, upd_upd]
      have keep : ∀ {b : Addr} {o : HO}, H5 b = some o → (∀ C dx fs, o ≠ .ins C dx fs) → (upd H5 x (.ins c.CB dx [(("many" : Str), .int m), (("places" : Str), .int (n : Int)), (("goers" : Str), .ref gt)])) b = some o := fun {b o} e d => by
        rw [upd_ne (ne_of e hx5 (d _ _ _))]
        exact e
      refine ⟨_, rfl, _, rfl, x, _, _, _, _, rfl, upd_same, T.clB, T.nB3, rfl, ll, gt, as, (rows m (n + 1)).map keyOf, ((rows m (n + 1)).map g).map V.int, rfl, SqL.of (keep hll5 (by intro _ _ _ z; cases z)), SqT.of (keep egt5 (by intro _ _ _ z; cases z)), by rw [List.length_map]; exact hal.symm, by rw [List.length_map, List.length_map]; exact hal.symm, fun i kk b hk hb => ?_, keys_nodup hsm.2, fun dd hdd => ?_⟩
      · rw [List.getElem?_map] at hk
        obtain ⟨s', hs', rfl⟩ := Option.map_eq_some_iff.mp hk
        obtain ⟨r, hr1, hr2⟩ := Paired.at hlots5 hb
        rw [hs'] at hr1
        cases hr1
        rw [show (keyOf s').map kV = s'.map V.int from key_map s']
        exact keep hr2 (by intro _ _ _ z; cases z)
      · have nx : dd ≠ x := fun z => by rw [z, upd_same] at hdd; cases hdd
        have hddn : H5 dd = none := by rw [upd_ne nx] at hdd; exact hdd
        have hdd0 : H dd = none := Same.free S5 hddn
        refine ⟨_, rfl, x, c.CB, dx, [(("many" : Str), .int m), (("places" : Str), .int (n : Int)), (("goers" : Str), .ref gt)], rfl, by rw [upd_ne (Ne.symm nx)]; exact upd_same, T.clB, T.nB4, by show 3 < 1000; decide, ?_⟩
        refine k _ (But.self (But.put (But.self b5) hdd0)) ⟨dx, gt, dd, upd_same, _, by rw [upd_ne nx]; exact upd_same, fun s' h1 h2 => val_zip g (mem_rows.mpr ⟨h1, h2⟩)⟩
end
end Ws
end
section
set_option Elab.async false
set_option linter.all false
set_option maxRecDepth 100000
set_option maxHeartbeats 4000000
namespace Ws
open PySem PySem.Spec PyProof.Rows L2
set_option autoImplicit false
/-! K38: Live.__init__ and the small ones. -/
/-- lists and tuples stay -/
def KS (H H' : Hp) : Prop := ∀ b xs, (H b = some (.lst xs) → H' b = some (.lst xs)) ∧ (H b = some (.tup xs) → H' b = some (.tup xs))
theorem Same.ks {H H' : Hp} (s : Same H H') : KS H H' := fun b xs => ⟨s b _, s b _⟩
theorem But.ks {x C dx : Addr} {fs : List (Str × V)} {H H' : Hp} (s : But x H H') (hx : H x = some (.ins C dx fs)) : KS H H' := fun b xs => ⟨fun e => s.keep hx e (by intro z; cases z), fun e => s.keep hx e (by intro z; cases z)⟩
section
variable {H H' : Hp}
theorem KS.seq (k : KS H H') {a : Addr} {xs : List V} (h : Seq H a xs) : Seq H' a xs := h.elim (fun h => .inl ((k a xs).1 h)) fun h => .inr ((k a xs).2 h)
theorem KS.kd (k : KS H H') {v : V} (h : Kd H v) : Kd H' v := by
  cases v with
  | ref a => obtain ⟨xs, e⟩ := h; exact ⟨xs, k.seq e⟩
  | non => trivial
  | bl _ => trivial
  | int _ => trivial
  | str _ => trivial
  | byt _ => exact h
  | flt _ => exact h
  | ty _ => exact h
theorem KS.rdAt (k : KS H H') {x : V} {p : Int × Int} (h : RdAt H x p) : RdAt H' x p := by
  obtain ⟨a, e, s⟩ := h
  exact ⟨a, e, k.seq s⟩
theorem KS.rdBad (k : KS H H') {n : Int} {rs : List (Int × Int)} {x : V} (h : RdBad H n rs x) : RdBad H' n rs x := by
  rcases h with ⟨h1, h2⟩ | ⟨a, ys, e, h1, h2⟩ | ⟨a, y, z, e, h1, h2, h3, h4⟩ | ⟨p, h1, h2⟩
  · exact .inl ⟨k.kd h1, h2⟩
  · exact .inr (.inl ⟨a, ys, e, k.seq h1, h2⟩)
  · exact .inr (.inr (.inl ⟨a, y, z, e, k.seq h1, k.kd h2, k.kd h3, h4⟩))
  · exact .inr (.inr (.inr ⟨p, k.rdAt h1, h2⟩))
theorem KS.roadsBad (k : KS H H') {v : V} {n at_ : Int} (h : RoadsBad H v n at_) : RoadsBad H' v n at_ := by
  rcases h with ⟨h1, h2, h3⟩ | ⟨a, xs, j, y, rs, e, h1, h2, h3, h4, h5, h6, h7, h8⟩
  · exact .inl ⟨k.kd h1, h2, h3⟩
  · exact .inr ⟨a, xs, j, y, rs, e, k.seq h1, h2, h3, h4, Paired.map' h5 fun _ _ r => k.rdAt r, h6, h7, k.rdBad h8⟩
theorem KS.roadsOk (k : KS H H') {v : V} {n : Int} {rs : List (Int × Int)} (h : RoadsOk H v n rs) : RoadsOk H' v n rs := by
  obtain ⟨a, xs, e, h1, h2, h3, h4⟩ := h
  exact ⟨a, xs, e, k.seq h1, h2, Paired.map' h3 fun _ _ r => k.rdAt r, h4⟩
theorem KS.lots (k : KS H H') {as : List Addr} {ss : List (List Int)} (h : Lots H as ss) : Lots H' as ss := Paired.map' h fun a s e => (k a _).2 e
theorem KS.lotT (k : KS H H') {l : Addr} {ss : List (List Int)} (h : LotT H l ss) : LotT H' l ss := by
  obtain ⟨as, e, p⟩ := h
  exact ⟨as, (k l _).2 e, k.lots p⟩
theorem KS.lotL (k : KS H H') {l : Addr} {ss : List (List Int)} (h : LotL H l ss) : LotL H' l ss := by
  obtain ⟨as, e, p⟩ := h
  exact ⟨as, (k l _).1 e, k.lots p⟩
end
theorem But.book {c : Cs} {x C dx : Addr} {fs : List (Str × V)} {H H' : Hp} {b : Addr} {m : Int} {n : Nat} {g : List Int → Int} (s : But x H H') (hx : H x = some (.ins C dx fs)) (ne : C ≠ c.CB) (h : BookAt c H b m n g) : BookAt c H' b m n g := by
  obtain ⟨dx', gs, d, e, kvs, e2, t⟩ := h
  exact ⟨dx', gs, d, s.keep hx e (by intro z; injection z with z; exact ne z.symm), kvs, s.keep hx e2 (by intro z; cases z), t⟩
theorem But.bks {c : Cs} {x C dx : Addr} {fs : List (Str × V)} {H H' : Hp} {m : Int} {as : List Addr} {bs : Bks} (s : But x H H') (hx : H x = some (.ins C dx fs)) (ne : C ≠ c.CB) (h : Paired (BkAt c H m) as bs) : Paired (BkAt c H' m) as bs :=
  Paired.map' h fun _ _ r => ⟨s.book hx ne r.at_, r.k3⟩
theorem rdLe_anti {p q : Int × Int} (h : rdLe p q) (k : rdLe q p) : p = q := by
  unfold rdLe at h k
  cases p; cases q
  simp only [Prod.mk.injEq] at *
  omega
theorem rd_uniq : ∀ {as bs : List (Int × Int)}, as.Perm bs → as.Pairwise rdLe → bs.Pairwise rdLe → as = bs
  | [], bs, p, _, _ => (List.nil_perm.mp p).symm ▸ rfl
  | a :: as, [], p, _, _ => by have := p.length_eq; simp at this
  | a :: as, b :: bs, p, ha, hb => by
    have e : a = b := by
      have h1 : a ∈ b :: bs := p.mem_iff.mp List.mem_cons_self
      have h2 : b ∈ a :: as := p.mem_iff.mpr List.mem_cons_self
      rcases List.mem_cons.mp h1 with e | h1
      · exact e
      · rcases List.mem_cons.mp h2 with e | h2
        · exact e.symm
        · exact rdLe_anti ((List.pairwise_cons.mp ha).1 _ h2) ((List.pairwise_cons.mp hb).1 _ h1)
    subst e
    rw [rd_uniq p.cons_inv (List.pairwise_cons.mp ha).2 (List.pairwise_cons.mp hb).2]
theorem kept_nil (s : Hs) (h : Nat) : s.kept h [] = [] := rfl
theorem keptFrom_nil (s : Hs) : ∀ (bs : Bks) (h : Nat), keptFrom s h (bs.map fun _ => []) = bs.map fun _ => []
  | [], _ => rfl
  | _ :: r, h => by
    show s.kept h [] :: keptFrom s (h + 1) (r.map fun _ => []) = _
    rw [keptFrom_nil s r (h + 1)]
    rfl
theorem put_live2 (b r : V) : putF ("roads" : Str) r (putF ("books" : Str) b []) = [(("books" : Str), b), (("roads" : Str), r)] := rfl
theorem put_live3 (b r k : V) : putF ("kept" : Str) k [(("books" : Str), b), (("roads" : Str), r)] = [(("books" : Str), b), (("roads" : Str), r), (("kept" : Str), k)] := rfl
theorem put_live5 (b r k e l : V) : putF ("later_states" : Str) l (putF ("elder_states" : Str) e [(("books" : Str), b), (("roads" : Str), r), (("kept" : Str), k)]) = [(("books" : Str), b), (("roads" : Str), r), (("kept" : Str), k), (("elder_states" : Str), e), (("later_states" : Str), l)] := rfl
section
variable {P : Program} {w : World} {K : PySem.W.Frag} {mg : Str → Option Value} {base : Heap} {c : Cs} {f1 f2 f3 f4 : Addr} {t9 t6 : Tok}
theorem ok_Live (T : Txt P K mg c.CB c.CL c.C1 c.C2 c.C3 c.C4 f1 f2 f3 f4 t9 t6) (d_need_house_books : Dn P w K mg base (L2.CX P w) 2 "need_house_books" ["value"] (sp_need_house_books c)) (d_need_roads : Dn P w K mg base (L2.CX P w) 4 "need_roads" ["value", "hands"] (sp_need_roads c)) (d_need_steady_books : Dn P w K mg base (L2.CX P w) 7 "need_steady_books" ["books"] (sp_need_steady_books c)) {f : Addr} {fd : FuncData} (F : Fun K "__init__" "Live.__init__" s_Live f fd) : FnOk P w K mg base (L2.CX P w) 8 f fd ["self", "books", "roads"] (sp_Live c) := by
  refine F.okX sc_Live (fun vs H Q E h => ?_) (fun cdv A outer s H vs Q E hr h => ?_)
  · obtain ⟨x, dx, b, r, rfl, hx, hdx, hv⟩ := h
    rfl
  · obtain ⟨x, dx, b, r, rfl, hx, hdx, hv⟩ := h
    refine ⟨_, (pss_cons (ps_fld (pv 0) (pe_dn d_need_house_books (hr.mono (by decide)) (fun σ => passAt (takes_of rfl rfl rfl rfl) σ) (pa_cons (pv 1) pa_nil)) rfl)
    (pss_cons (ps_fld (pv 0) (pe_dn d_need_roads (hr.mono (by decide)) (fun σ => passAt (takes_of rfl rfl rfl rfl) σ) (pa_cons (pv 2) (pa_cons (pe_callB (call_lenA (K := K) rfl) (by rfl) T.g_len (by decide +kernel) (pa_cons (pe_fldK (K := K) rfl (pv 0)) pa_nil)) pa_nil))) rfl)
    (pss_cons (ps_expr (pe_dn d_need_steady_books (hr.mono (by decide)) (fun σ => passAt (takes_of rfl rfl rfl rfl) σ) (pa_cons (pe_fldK (K := K) rfl (pv 0)) pa_nil)))
    (pss_cons (ps_fld (pv 0) (pe_callTy (call_tupleA (K := K) rfl) (by rfl) T.g_tuple (by decide +kernel) (pa_cons (pe_lc (own := [("book", 3)]) (g := (gName 3)) (tt := tYes) rfl sc_Live.nd (pi_tupK (K := K) rfl (pe_fldK (K := K) rfl (pv 0))) (blkOk_by (N := ["self", "books", "roads", "book"]) (sc := defScope s_Live) (by decide +kernel)) (fun _ _ _ _ _ => (pg_name (i := 3) sc_Live.nd rfl (Or.inl rfl))) (fun _ _ _ _ _ => pts_nil) (fun _ _ _ _ _ => (pe_tup pa_nil))) pa_nil)) rfl)
    (pss_one (ps_asg (pe_tup (pa_cons (pe_lst pa_nil) (pa_cons (pe_lst pa_nil) pa_nil))) (pg_tupK (K := K) rfl rfl (pgs_cons (pg_fld (pv 0)) (pgs_cons (pg_fld (pv 0)) pgs_nil))))))))), ?_⟩
    rcases hv with ⟨at_, hb, kF⟩ | hv
    · exact ⟨_, rfl, b, rfl, .inl ⟨at_, hb, fun H' d s' hd e => kF H' d (fun b o _ e => s' b o e) hd e⟩⟩
    have hn : ∃ xs, BooksOk c H b xs ∧ ((∃ (at_ : Int), RoadsBad H r xs.length at_ ∧ ∀ (H' : Hp) (d : Addr), But x H H' → H d = none → H' d = some (.xd [(("at" : Str), .int at_)]) → E (.ref c.C2) (some d) H') ∨
       (∃ (as : List Addr) (m : Int) (bs : Bks) (rs : List (Int × Int)), xs = as.map V.ref ∧ RoadsOk H r xs.length rs ∧ 0 ≤ m ∧ m ≤ 6 ∧ Paired (BkAt c H m) as bs ∧
        (((∃ p ∈ bs, steadyB m p.1 p.2 = false) ∧ ∀ (H' : Hp) (d : Addr), But x H H' → H d = none → H' d = some (.xd [(("at" : Str), .int (-1))]) → E (.ref c.C3) (some d) H') ∨
         ((∀ p ∈ bs, steadyB m p.1 p.2 = true) ∧ ∃ s : Hs, s.Ok ∧ s.m = m ∧ s.bs = bs ∧ rs.Perm s.rs ∧ ∀ (H' : Hp) (el ll : Addr), But x H H' → H el = none → H ll = none → LiveAt c s H' [x, el, ll] (s.bs.map fun _ => []) [] [] → BooksAt c H' x xs → Q .non H')))) := by
      rcases hv with ⟨xs, at_, h1, h2, kF⟩ | ⟨as, m, bs, rs, h1, h2, h3, h4, h5, h6, kF⟩ | ⟨as, s, rs, h1, h2, h3, h4, h5, h6, kT⟩
      · exact ⟨xs, h1, .inl ⟨at_, h2, kF⟩⟩
      · exact ⟨_, h1, .inr ⟨as, m, bs, rs, rfl, by rw [List.length_map]; exact h2, h3, h4, h5, .inl ⟨h6, kF⟩⟩⟩
      · exact ⟨_, h2, .inr ⟨as, s.m, s.bs, rs, rfl, by rw [List.length_map]; exact h5, h1.m0, h1.m6, h3, .inr ⟨h4, s, h1, rfl, rfl, h6, kT⟩⟩⟩
    clear hv
    obtain ⟨xs, hok, hn⟩ := hn
    refine ⟨_, rfl, b, rfl, .inr ⟨xs, hok, fun t H1 s1 ht => ?_⟩⟩
    refine ⟨_, rfl, x, c.CL, dx, [], rfl, s1 _ _ hx, T.clL, T.nL1, by decide, ?_⟩
    have b2 : But x H (upd H1 x (.ins c.CL dx (putF ("books" : Str) (.ref t) []))) := But.self (fun b o _ e => s1 b o e)
    have ex2 : (upd H1 x (.ins c.CL dx (putF ("books" : Str) (.ref t) []))) x = some (.ins c.CL dx (putF ("books" : Str) (.ref t) [])) := upd_same
    have et2 : (upd H1 x (.ins c.CL dx (putF ("books" : Str) (.ref t) []))) t = some (.tup xs) := by rw [upd_ne (ne_of ht (s1 _ _ hx) (by intro z; cases z))]; exact ht
    have fr2 : ∀ d, (upd H1 x (.ins c.CL dx (putF ("books" : Str) (.ref t) []))) d = none → H d = none := fun d e => by
      have nx : d ≠ x := fun z => by rw [z, upd_same] at e; cases e
      rw [upd_ne nx] at e
      exact Same.free s1 e
    generalize upd H1 x (.ins c.CL dx (putF ("books" : Str) (.ref t) [])) = H2 at b2 ex2 et2 fr2 ⊢
    have k2 := b2.ks hx
    refine ⟨_, rfl, _, rfl, x, _, _, _, _, rfl, ex2, T.clL, T.nL1, rfl, t, _, rfl, .inr (SqT.of et2), r, _, rfl, ?_⟩
    rcases hn with ⟨at_, hbad, kF⟩ | ⟨as, m, bs, rs, rfl, hro, h0, h6, hbk, hn⟩
    · exact .inl ⟨at_, k2.roadsBad hbad, fun H' d s' hd e => kF H' d (b2.same s') (fr2 d hd) e⟩
    refine .inr ⟨rs, k2.roadsOk hro, fun u rs' H3 s3 hperm hsort hL => ?_⟩
    refine ⟨_, rfl, x, c.CL, dx, putF ("books" : Str) (.ref t) [], rfl, s3 _ _ ex2, T.clL, T.nL2, by show 1 < 1000; decide, ?_⟩
    have b4 : But x H (upd H3 x (.ins c.CL dx (putF ("roads" : Str) (.ref u) (putF ("books" : Str) (.ref t) [])))) := But.self (b2.same s3)
    have ex4 : (upd H3 x (.ins c.CL dx (putF ("roads" : Str) (.ref u) (putF ("books" : Str) (.ref t) [])))) x = some (.ins c.CL dx (putF ("roads" : Str) (.ref u) (putF ("books" : Str) (.ref t) []))) := upd_same
    have b34 : But x H3 (upd H3 x (.ins c.CL dx (putF ("roads" : Str) (.ref u) (putF ("books" : Str) (.ref t) [])))) := But.self (But.refl _ _)
    have k34 := b34.ks (s3 _ _ ex2)
    have et4 := (k34 t _).2 (s3 _ _ et2)
    have hL4 := k34.lotT hL
    have fr4 : ∀ d, (upd H3 x (.ins c.CL dx (putF ("roads" : Str) (.ref u) (putF ("books" : Str) (.ref t) [])))) d = none → H d = none := fun d e => by
      have nx : d ≠ x := fun z => by rw [z, upd_same] at e; cases e
      rw [upd_ne nx] at e
      exact fr2 d (Same.free s3 e)
    rw [put_live2] at b4 ex4 b34 et4 hL4 fr4 ⊢
    generalize upd H3 x (.ins c.CL dx [(("books" : Str), .ref t), (("roads" : Str), .ref u)]) = H4 at b4 ex4 b34 et4 hL4 fr4 ⊢
    have hbk4 := b4.bks hx (Ne.symm T.neBL) hbk
    refine ⟨_, rfl, x, _, _, _, _, rfl, ex4, T.clL, T.nL1, rfl, t, as, m, bs, rfl, et4, hbk4, h0, h6, fun hall H5 s5 => ?_, fun hno H5 d s5 hd e => ?_⟩
    · rcases hn with ⟨⟨p, hp, e⟩, _⟩ | ⟨_, s0, hsok, rfl, rfl, hperm0, kT⟩
      · rw [hall p hp] at e; cases e
      have ers : rs' = s0.rs := rd_uniq (hperm.trans hperm0) hsort hsok.asc
      subst ers
      have ex5 := s5 _ _ ex4
      have et5 := s5 _ _ et4
      have b5 := b4.same s5
      have hlen := Paired.len' hbk
      have hk6 : as.length ≤ 6 := by
        obtain ⟨_, _, _, _, _, q, _⟩ := hok
        rw [List.length_map] at q
        exact q
      refine ⟨_, rfl, x, _, _, _, _, rfl, ex5, T.clL, T.nL1, rfl, t, rfl, ⟨_, SqT.of et5⟩, fun D hD => lc_fmT as V.ref (fun _ => true) (IsLotR fun _ => []) (stb_lot _) et5 hD (by omega) (fun y hy H' s' Rb kb => kb _ (Same.refl _)) (fun y hy _ H' s' Rq kq => ?_) fun ys H6 s6 hys pp => ?_⟩
      · exact ⟨Nat.zero_le _, fun q hq => kq _ _ (Same.new hq) ⟨q, rfl, upd_same⟩⟩
      · rw [filter_tt] at pp
        obtain ⟨ks, rfl, hks⟩ := paired_lot pp
        have ekk : (as.map fun _ => ([] : List Int)) = s0.keptL (s0.bs.map fun _ => []) := by
          show _ = keptFrom s0 0 _
          rw [keptFrom_nil, List.map_const', List.map_const', hlen]
        rw [ekk] at hks
        refine ⟨D, _, rfl, .inl ⟨SqL.of hys, fun kt hkt => ?_⟩⟩
        have ex6 := s6 _ _ ex5
        have s7 : Same H6 (upd H6 kt (.tup (ks.map V.ref))) := Same.new hkt
        have ekt : (upd H6 kt (.tup (ks.map V.ref))) kt = some (.tup (ks.map V.ref)) := upd_same
        have fr6 : ∀ d, (upd H6 kt (.tup (ks.map V.ref))) d = none → H d = none := fun d e => fr4 d (Same.free s5 (Same.free s6 (Same.free s7 e)))
        have b7 : But x H (upd H6 kt (.tup (ks.map V.ref))) := But.same (But.same b5 s6) s7
        have S47 : Same H4 (upd H6 kt (.tup (ks.map V.ref))) := Same.trans (s5.trans s6) s7
        have hks7 := hks.same s7
        generalize upd H6 kt (.tup (ks.map V.ref)) = H7 at s7 ekt fr6 b7 S47 hks7 ⊢
        refine ⟨_, rfl, x, c.CL, dx, _, rfl, s7 _ _ ex6, T.clL, T.nL3, by show 2 < 1000; decide, ?_⟩
        rw [put_live3]
        have b78 : But x H7 (upd H7 x (.ins c.CL dx [(("books" : Str), .ref t), (("roads" : Str), .ref u), (("kept" : Str), .ref kt)])) := But.self (But.refl _ _)
        have k78 := b78.ks (s7 _ _ ex6)
        have ex8 : (upd H7 x (.ins c.CL dx [(("books" : Str), .ref t), (("roads" : Str), .ref u), (("kept" : Str), .ref kt)])) x = some (.ins c.CL dx [(("books" : Str), .ref t), (("roads" : Str), .ref u), (("kept" : Str), .ref kt)]) := upd_same
        have fr8 : ∀ d, (upd H7 x (.ins c.CL dx [(("books" : Str), .ref t), (("roads" : Str), .ref u), (("kept" : Str), .ref kt)])) d = none → H d = none := fun d e => by
          have nx : d ≠ x := fun z => by rw [z, upd_same] at e; cases e
          rw [upd_ne nx] at e
          exact fr6 d e
        have b8 : But x H (upd H7 x (.ins c.CL dx [(("books" : Str), .ref t), (("roads" : Str), .ref u), (("kept" : Str), .ref kt)])) := But.self b7
        have et8 := (k78 t _).2 (S47 _ _ et4)
        have ekt8 := (k78 kt _).2 ekt
        have hks8 := k78.lots hks7
        have hL8 := k78.lotT (hL4.same S47)
        generalize upd H7 x (.ins c.CL dx [(("books" : Str), .ref t), (("roads" : Str), .ref u), (("kept" : Str), .ref kt)]) = H8 at ex8 fr8 b8 et8 ekt8 hks8 hL8 ⊢
        refine ⟨Nat.zero_le _, fun el hel => ⟨Nat.zero_le _, fun ll hll => ⟨(by show 2 ≤ sizeLine; decide), fun q hq => ?_⟩⟩⟩
        have nel : ll ≠ el := fun z => by rw [z, upd_same] at hll; cases hll
        have s9 : Same H8 (upd H8 el (.lst [])) := Same.new hel
        have s10 : Same (upd H8 el (.lst [])) (upd (upd H8 el (.lst [])) ll (.lst [])) := Same.new hll
        have s11 := Same.new (o := .tup [.ref el, .ref ll]) hq
        have eel := s11 _ _ (s10 _ _ (upd_same (H := H8) (a := el) (o := .lst [])))
        have ell := s11 _ _ (upd_same (H := upd H8 el (.lst [])) (a := ll) (o := .lst []))
        have eq11 : (upd (upd (upd H8 el (.lst [])) ll (.lst [])) q (.tup [.ref el, .ref ll])) q = some (.tup [.ref el, .ref ll]) := upd_same
        have S8 := (Same.trans s9 s10).trans s11
        have fel := fr8 el hel
        have fll := fr8 ll (Same.free s9 hll)
        generalize upd (upd (upd H8 el (.lst [])) ll (.lst [])) q (.tup [.ref el, .ref ll]) = H9 at s11 eel ell eq11 S8 ⊢
        have ex9 := S8 _ _ ex8
        refine ⟨q, _, rfl, SqT.of eq11, rfl, _, _, rfl, _, rfl, x, _, _, _, rfl, ex9, T.clL, T.nL4, by show 3 < 1000; decide, _, _, rfl, _, rfl, x, _, _, _, rfl, upd_same, T.clL, T.nL5, by show 4 < 1000; decide, rfl, ?_⟩
        rw [put_live5, upd_upd]
        have b9 : But x H9 (upd H9 x (.ins c.CL dx [(("books" : Str), .ref t), (("roads" : Str), .ref u), (("kept" : Str), .ref kt), (("elder_states" : Str), .ref el), (("later_states" : Str), .ref ll)])) := But.self (But.refl _ _)
        have k9 := b9.ks ex9
        have B9 : But x H (upd H9 x (.ins c.CL dx [(("books" : Str), .ref t), (("roads" : Str), .ref u), (("kept" : Str), .ref kt), (("elder_states" : Str), .ref el), (("later_states" : Str), .ref ll)])) := But.self (But.same b8 S8)
        refine kT _ el ll B9 fel fll ⟨x, dx, t, u, kt, el, ll, as, [], [], rfl, ?_⟩ ⟨dx, _, t, upd_same, rfl, (k9 t _).2 (S8 _ _ et8)⟩
        refine ⟨upd_same, (k9 t _).2 (S8 _ _ et8), B9.bks hx (Ne.symm T.neBL) hbk, k9.lotT (hL8.same S8), ⟨ks, (k9 kt _).2 (S8 _ _ ekt8), k9.lots (hks8.same S8)⟩, ⟨by rw [List.length_map], fun t ht => ?_⟩, (k9 el _).1 eel, (k9 ll _).1 ell, Ne.symm nel, .nil, .nil, Nat.zero_le _, Nat.zero_le _⟩
        obtain ⟨_, _, rfl⟩ := List.mem_map.mp ht
        exact LotOk.nil _
    · rcases hn with ⟨_, kF⟩ | ⟨hall, _⟩
      · exact kF H5 d (b4.same s5) (fr4 d hd) e
      · obtain ⟨p, hp, e'⟩ := hno
        rw [hall p hp] at e'; cases e'
end
end Ws
end
section
set_option Elab.async false
set_option linter.all false
set_option maxRecDepth 100000
set_option maxHeartbeats 4000000
namespace Ws
open PySem PySem.Spec PyProof.Rows L2
set_option autoImplicit false
/-! K39: need_hand, need_two_hands, list_of. -/
theorem LiveAt.at {c : Cs} {s : Hs} {H : Hp} {O : List Addr} {ss : List (List Int)} {el la : List (List (List Int))} {p : Addr} (h : LiveAt c s H O ss el la) (e : O.head? = some p) :
    ∃ dx bt rt kt e l as ea lla, O = [p, e, l] ∧ LiveIn c s H p dx bt rt kt e l as ea lla ss el la := by
  obtain ⟨p', dx, bt, rt, kt, e', l, as, ea, lla, rfl, h⟩ := h
  cases e
  exact ⟨dx, bt, rt, kt, e', l, as, ea, lla, rfl, h⟩
section
variable {c : Cs} {s : Hs} {H : Hp} {p dx bt rt kt el ll : Addr} {as ea la : List Addr} {ss : List (List Int)} {elder later : List (List (List Int))}
theorem LiveIn.len (h : LiveIn c s H p dx bt rt kt el ll as ea la ss elder later) : as.length = s.bs.length := Paired.len' h.bks
theorem keptFrom_at (s : Hs) : ∀ (ss : List (List Int)) (h i : Nat), (keptFrom s h ss)[i]? = (ss[i]?).map (s.kept (h + i))
  | [], h, i => by cases i <;> rfl
  | t :: r, h, 0 => rfl
  | t :: r, h, i + 1 => by
    show (keptFrom s (h + 1) r)[i]? = _
    rw [keptFrom_at s r (h + 1) i]
    show _ = (r[i]?).map (s.kept (h + (i + 1)))
    rw [show h + 1 + i = h + (i + 1) by omega]
theorem keptL_at {s : Hs} {ss : List (List Int)} {i : Nat} {t : List Int} (e : ss[i]? = some t) : (s.keptL ss)[i]? = some (s.kept i t) := by
  show (keptFrom s 0 ss)[i]? = _
  rw [keptFrom_at, e, Nat.zero_add]
  rfl
theorem keptFrom_len (s : Hs) : ∀ (ss : List (List Int)) (h : Nat), (keptFrom s h ss).length = ss.length
  | [], _ => rfl
  | _ :: r, h => congrArg Nat.succ (keptFrom_len s r (h + 1))
theorem rch_in {s : Hs} (ok : s.Ok) {h : Nat} (hh : h < s.bs.length) : ∀ y, Rch s.rs (h : Int) y → 0 ≤ y ∧ y < s.bs.length := fun y r => Rch.within ok.rds.within (show (0 : Int) ≤ (h : Int) ∧ (h : Int) < s.n from ⟨by omega, by show (h : Int) < (s.bs.length : Int); omega⟩) r
theorem lot_keptS {s : Hs} {h : Nat} {t : List Int} (ht : LotOk s.m t) : LotOk s.m (s.kept h t) := lot_kept ht
end
section
variable {P : Program} {w : World} {K : PySem.W.Frag} {mg : Str → Option Value} {base : Heap} {c : Cs} {f1 f2 f3 f4 : Addr} {t9 t6 : Tok}
theorem ok_Live_need_hand (T : Txt P K mg c.CB c.CL c.C1 c.C2 c.C3 c.C4 f1 f2 f3 f4 t9 t6) (d_is_below : Dn P w K mg base CX0 3 "is_below" ["value", "many"] (sp_is_below c)) {f : Addr} {fd : FuncData} (F : Fun K "need_hand" "Live.need_hand" s_Live_need_hand f fd) : FnOk P w K mg base (L2.CX P w) 4 f fd ["self", "value", "word"] (sp_Live_need_hand c) := by
  refine F.okX sc_Live_need_hand (fun vs H Q E h => ?_) (fun cdv A outer s H vs Q E hr h => ?_)
  · obtain ⟨p, s0, O, ss, el, la, v, w0, rfl, hO, hL, hkd, kT, kF⟩ := h
    rfl
  · obtain ⟨p, s0, O, ss, el, la, v, w0, rfl, hO, hL, hkd, kT, kF⟩ := h
    refine ⟨_, (pss_one (ps_if (pt_not (pt_val (pe_dn d_is_below (hr.mono (by decide)) pA0 (pa_cons (pv 1) (pa_cons (pe_callB (call_lenA (K := K) rfl) (by rfl) T.g_len (by decide +kernel) (pa_cons (pe_fldK (K := K) rfl (pv 0)) pa_nil)) pa_nil)))))
    (pss_one (ps_raiseX rfl T.x_Refused hr (takes_of rfl rfl rfl rfl) (pv 2)))
    pss_nil)), ?_⟩
    obtain ⟨dx, bt, rt, kt, e, l, as, ea, lla, rfl, L⟩ := hL.at hO
    refine ⟨_, rfl, _, rfl, p, _, _, _, _, rfl, L.ins, T.clL, T.nL1, rfl, bt, _, rfl, .inr (SqT.of L.books), v, _, rfl, hkd, _, rfl, ?_⟩
    rw [List.length_map, L.len]
    cases z : isB s0.n v with
    | true =>
      rw [show isB ((s0.bs.length : Nat) : Int) v = true from z]
      exact iteF (kT z)
    | false =>
      rw [show isB ((s0.bs.length : Nat) : Int) v = false from z]
      exact iteT ⟨_, rfl, fun d hd => kF z _ d (Same.new hd) hd upd_same⟩
theorem ok_Live_need_two_hands (T : Txt P K mg c.CB c.CL c.C1 c.C2 c.C3 c.C4 f1 f2 f3 f4 t9 t6) (d_Live_need_hand : Dm P w K mg base (L2.CX P w) 4 c.CL "need_hand" ["self", "value", "word"] ["value", "word"] (sp_Live_need_hand c)) {f : Addr} {fd : FuncData} (F : Fun K "need_two_hands" "Live.need_two_hands" s_Live_need_two_hands f fd) : FnOk P w K mg base (L2.CX P w) 5 f fd ["self", "hand", "to"] (sp_Live_need_two_hands c) := by
  refine F.okX sc_Live_need_two_hands (fun vs H Q E h => ?_) (fun cdv A outer s H vs Q E hr h => ?_)
  · obtain ⟨p, s0, O, ss, el, la, v, w0, rfl, hO, hL, hkd, hkw, kT, kF1, kF2⟩ := h
    rfl
  · obtain ⟨p, s0, O, ss, el, la, v, w0, rfl, hO, hL, hkd, hkw, kT, kF1, kF2⟩ := h
    refine ⟨_, (pss_cons (ps_expr (pe_dm d_Live_need_hand (pv 0) T.clL (hr.mono (by decide)) (fun σ => passAt (takes_of rfl rfl rfl rfl) σ) (pa_cons (pv 1) (pa_cons pe_str pa_nil))))
    (pss_one (ps_expr (pe_dm d_Live_need_hand (pv 0) T.clL (hr.mono (by decide)) (fun σ => passAt (takes_of rfl rfl rfl rfl) σ) (pa_cons (pv 2) (pa_cons pe_str pa_nil)))))), ?_⟩
    obtain ⟨dx, bt, rt, kt, e, l, as, ea, lla, _, L⟩ := hL.at hO
    refine ⟨_, rfl, p, _, _, rfl, L.ins, rfl, _, rfl, p, s0, O, ss, el, la, v, _, rfl, hO, hL, hkd, fun z => ?_, fun z => kF1 z⟩
    exact ⟨_, rfl, p, _, _, rfl, L.ins, rfl, _, rfl, p, s0, O, ss, el, la, w0, _, rfl, hO, hL, hkw, fun z2 => kT z z2, fun z2 => kF2 z z2⟩
theorem ok_Live_list_of (T : Txt P K mg c.CB c.CL c.C1 c.C2 c.C3 c.C4 f1 f2 f3 f4 t9 t6) (d_Live_need_hand : Dm P w K mg base (L2.CX P w) 4 c.CL "need_hand" ["self", "value", "word"] ["value", "word"] (sp_Live_need_hand c)) (d_come_along : Dn P w K mg base CX0 2 "come_along" ["book", "stays", "row"] (sp_come_along c)) {f : Addr} {fd : FuncData} (F : Fun K "list_of" "Live.list_of" s_Live_list_of f fd) : FnOk P w K mg base (L2.CX P w) 5 f fd ["self", "hand"] (sp_Live_list_of c) := by
  refine F.okX sc_Live_list_of (fun vs H Q E h => ?_) (fun cdv A outer s H vs Q E hr h => ?_)
  · obtain ⟨p, s0, O, ss, el, la, v, rfl, hO, hL, hok, hkd, kF, kT⟩ := h
    rfl
  · obtain ⟨p, s0, O, ss, el, la, v, rfl, hO, hL, hok, hkd, kF, kT⟩ := h
    refine ⟨_, (pss_cons (ps_expr (pe_dm d_Live_need_hand (pv 0) T.clL (hr.mono (by decide)) (fun σ => passAt (takes_of rfl rfl rfl rfl) σ) (pa_cons (pv 1) (pa_cons pe_str pa_nil))))
    (pss_one (ps_ret (pe_dn d_come_along (hr.mono (by decide)) pA0 (pa_cons (pe_ix (ix_A (K := K) rfl) (pe_fldK (K := K) rfl (pv 0)) (pv 1) (fun _ _ => rfl)) (pa_cons (pe_tup pa_nil) (pa_cons (pe_ix (ix_A (K := K) rfl) (pe_fldK (K := K) rfl (pv 0)) (pv 1) (fun _ _ => rfl)) pa_nil))))))), ?_⟩
    obtain ⟨dx, bt, rt, kt, e, l, as, ea, lla, _, L⟩ := hL.at hO
    refine ⟨_, rfl, p, _, _, rfl, L.ins, rfl, _, rfl, p, s0, O, ss, el, la, v, _, rfl, hO, hL, hkd, fun z => ?_, fun z => kF z⟩
    obtain ⟨h, rfl, hh⟩ : ∃ h : Nat, v = .int (h : Int) ∧ h < s0.bs.length := by
      cases v with
      | int i =>
        have z' : (decide (0 ≤ i) && decide (i < s0.n)) = true := z
        simp only [Bool.and_eq_true, decide_eq_true_eq] at z'
        have en : s0.n = (s0.bs.length : Int) := rfl
        exact ⟨i.toNat, by rw [show ((i.toNat : Nat) : Int) = i by omega], by omega⟩
      | _ => cases z
    have hsl := L.heard.len
    obtain ⟨t, ht⟩ : ∃ t, ss[h]? = some t := ⟨ss[h]'(by omega), by simp⟩
    obtain ⟨b, hb⟩ : ∃ b, s0.bs[h]? = some b := ⟨s0.bs[h], by simp [hh]⟩
    obtain ⟨a, ha, hbk⟩ := Paired.at2 L.bks hb
    obtain ⟨ks, hkt, hks⟩ := L.kept
    obtain ⟨ka, hka, hkk⟩ := Paired.at2 hks (keptL_at ht)
    have G := hok.bks.good b (List.mem_of_getElem? hb)
    have hk3 := hok.k3 b (List.mem_of_getElem? hb)
    have htl := L.heard.ok t (List.mem_of_getElem? ht)
    have elst : lstOf s0.bs h (s0.kept h t) = lstOf s0.bs h t := kept_lst hok.bks (rch_in hok hh) htl .refl
    have ebk : bk s0.bs (h : Int) = b := bk_of hb
    refine ⟨_, rfl, p, _, _, _, _, rfl, L.ins, T.clL, T.nL1, rfl, _, rfl, bt, _, _, _, rfl, rfl, .inr (SqT.of L.books), atI_nat (map_at ha), Nat.zero_le _, fun q hq => ?_⟩
    have s1 : Same H (upd H q (.tup [])) := Same.new hq
    refine ⟨_, rfl, p, _, _, _, _, rfl, s1 _ _ L.ins, T.clL, T.nL3, rfl, _, rfl, kt, _, _, _, rfl, rfl, .inr (SqT.of (s1 _ _ hkt)), atI_nat (map_at hka), ?_⟩
    refine ⟨a, q, ka, s0.m, b.1, b.2, [], s0.kept h t, rfl, hbk.at_.same s1, G, by omega, upd_same, .nil _ _, s1 _ _ hkk, (lot_keptS htl).2, fun r H2 s2 hr2 => kT h t rfl ht r H2 (s1.trans s2) ?_⟩
    rw [← elst]
    show TupI H2 r (lst (bk s0.bs (h : Int)).2 (bk s0.bs (h : Int)).1 _)
    rw [ebk]
    exact hr2
end
end Ws
end
section
set_option Elab.async false
set_option linter.all false
set_option maxRecDepth 100000
set_option maxHeartbeats 4000000
namespace Ws
open PySem PySem.Spec PyProof.Rows L2
set_option autoImplicit false
/-! K40: Live.settle. -/
/-- what a living house does not change -/
def Still (c : Cs) (o : HO) : Prop := (∃ xs, o = .tup xs) ∨ (∃ kvs, o = .dT kvs) ∨ ∃ dx fs, o = .ins c.CB dx fs
def Kt (c : Cs) (H H' : Hp) : Prop := ∀ b o, Still c o → H b = some o → H' b = some o
theorem Same.kt {c : Cs} {H H' : Hp} (s : Same H H') : Kt c H H' := fun b o _ e => s b o e
theorem Kt.trans {c : Cs} {H H1 H2 : Hp} (a : Kt c H H1) (b : Kt c H1 H2) : Kt c H H2 := fun x o h e => b x o h (a x o h e)
section
variable {c : Cs} {H H' : Hp}
theorem Fr.kt {O : List Addr} (f : Fr O H H') (h : ∀ a ∈ O, ∃ o, H a = some o ∧ ¬ Still c o) : Kt c H H' := fun b o st e => f b o (fun m => by
  obtain ⟨o', e', n⟩ := h b m
  rw [e'] at e
  cases e
  exact n st) e
theorem Kt.tup (k : Kt c H H') {b : Addr} {xs : List V} (e : H b = some (.tup xs)) : H' b = some (.tup xs) := k b _ (.inl ⟨xs, rfl⟩) e
theorem Kt.lots (k : Kt c H H') {as : List Addr} {ss : List (List Int)} (h : Lots H as ss) : Lots H' as ss := Paired.map' h fun _ _ e => k.tup e
theorem Kt.lotT (k : Kt c H H') {l : Addr} {ss : List (List Int)} (h : LotT H l ss) : LotT H' l ss := by
  obtain ⟨as, e, p⟩ := h
  exact ⟨as, k.tup e, k.lots p⟩
theorem Kt.tab (k : Kt c H H') {d : Addr} {m : Int} {n : Nat} {g : List Int → Int} (h : TabAt H d m n g) : TabAt H' d m n g := by
  obtain ⟨kvs, e, t⟩ := h
  exact ⟨kvs, k _ _ (.inr (.inl ⟨kvs, rfl⟩)) e, t⟩
theorem Kt.book (k : Kt c H H') {b : Addr} {m : Int} {n : Nat} {g : List Int → Int} (h : BookAt c H b m n g) : BookAt c H' b m n g := by
  obtain ⟨dx, gs, d, e, t⟩ := h
  exact ⟨dx, gs, d, k _ _ (.inr (.inr ⟨dx, _, rfl⟩)) e, k.tab t⟩
theorem Kt.bks (k : Kt c H H') {m : Int} {as : List Addr} {bs : Bks} (h : Paired (BkAt c H m) as bs) : Paired (BkAt c H' m) as bs := Paired.map' h fun _ _ r => ⟨k.book r.at_, r.k3⟩
theorem Kt.st (k : Kt c H H') {s : Hs} {bt rt a : Addr} {ss : List (List Int)} (h : StAt H s bt rt a ss) : StAt H' s bt rt a ss := by
  obtain ⟨kt, e, l, o⟩ := h
  exact ⟨kt, k.tup e, k.lotT l, o⟩
theorem Kt.sts (k : Kt c H H') {s : Hs} {bt rt : Addr} {as : List Addr} {sss : List (List (List Int))} (h : Paired (StAt H s bt rt) as sss) : Paired (StAt H' s bt rt) as sss := Paired.map' h fun _ _ r => k.st r
theorem nst_lst {xs : List V} : ¬ Still c (.lst xs) := fun h => by
  rcases h with ⟨_, e⟩ | ⟨_, e⟩ | ⟨_, _, e⟩ <;> cases e
theorem nst_ins {C dx : Addr} {fs : List (Str × V)} (n : C ≠ c.CB) : ¬ Still c (.ins C dx fs) := fun h => by
  rcases h with ⟨_, e⟩ | ⟨_, e⟩ | ⟨_, _, e⟩
  · cases e
  · cases e
  · injection e with e; exact n e
variable {s : Hs} {p dx bt rt kt el ll : Addr} {as ea la : List Addr} {ss : List (List Int)} {elder later : List (List (List Int))}
theorem LiveIn.nst (h : LiveIn c s H p dx bt rt kt el ll as ea la ss elder later) (n : c.CB ≠ c.CL) : ∀ a ∈ [p, el, ll], ∃ o, H a = some o ∧ ¬ Still c o := fun a m => by
  rcases List.mem_cons.mp m with rfl | m
  · exact ⟨_, h.ins, nst_ins (Ne.symm n)⟩
  · rcases List.mem_cons.mp m with rfl | m
    · exact ⟨_, h.els, nst_lst⟩
    · rw [List.mem_singleton.mp m]; exact ⟨_, h.lls, nst_lst⟩
end
theorem lk_books (bt rt kt el ll : Addr) : (liveF bt rt kt el ll).lookup ("books" : Str) = some (.ref bt) := rfl
theorem lk_roads (bt rt kt el ll : Addr) : (liveF bt rt kt el ll).lookup ("roads" : Str) = some (.ref rt) := rfl
theorem lk_kept (bt rt kt el ll : Addr) : (liveF bt rt kt el ll).lookup ("kept" : Str) = some (.ref kt) := rfl
theorem lk_elder (bt rt kt el ll : Addr) : (liveF bt rt kt el ll).lookup ("elder_states" : Str) = some (.ref el) := rfl
theorem lk_later (bt rt kt el ll : Addr) : (liveF bt rt kt el ll).lookup ("later_states" : Str) = some (.ref ll) := rfl
theorem put_later (bt rt kt el ll l3 : Addr) : putF ("later_states" : Str) (.ref l3) (liveF bt rt kt el ll) = liveF bt rt kt el l3 := rfl
theorem put_kept3 (bt rt kt el ll b2 r2 k2 : Addr) : putF ("kept" : Str) (.ref k2) (putF ("roads" : Str) (.ref r2) (putF ("books" : Str) (.ref b2) (liveF bt rt kt el ll))) = liveF b2 r2 k2 el ll := rfl
theorem live_len (bt rt kt el ll : Addr) : (liveF bt rt kt el ll).length < 1000 := by show 5 < 1000; decide
theorem put_len3 (bt rt kt el ll b2 r2 : Addr) : (putF ("roads" : Str) (.ref r2) (putF ("books" : Str) (.ref b2) (liveF bt rt kt el ll))).length < 1000 := by show 5 < 1000; decide
theorem put_len1 (bt rt kt el ll b2 : Addr) : (putF ("books" : Str) (.ref b2) (liveF bt rt kt el ll)).length < 1000 := by show 5 < 1000; decide
/-- the books wanted -/
theorem wanted_bks {c : Cs} {H : Hp} {m : Int} {as as' : List Addr} {bs : Bks} {xs : List Int} (h : Paired (BkAt c H m) as bs) (p : Paired (fun a (y : Int) => as[Int.toNat y]? = some a) as' xs) : Paired (BkAt c H m) as' (xs.map (bk bs)) := by
  induction p with
  | nil => exact .nil
  | cons r t ih =>
    obtain ⟨b, hb, hk⟩ := Paired.at h r
    refine .cons ?_ ih
    rw [bk_of hb]
    exact hk
theorem lot_len {m : Int} {t : List Int} (h : LotOk m t) (hm : 0 ≤ m) : (t.length : Int) ≤ m := nodup_lt h.1.nodup (fun x hx => h.2 x hx) hm
/-- what each hand has before it is settled, and what it heard after -/
theorem had_at {s : Hs} (ok : s.Ok) {ss : List (List Int)} (hd : HeardOk s ss) {h : Nat} {a t u : List Int} (hu : ss[h]? = some u) (ha : LotOk s.m a) (hk : s.kept h a = s.kept h t) {i : Nat} {y : List Int} (hy : ((s.keptL ss).set h a)[i]? = some y) :
    ∃ z, (ss.set h t)[i]? = some z ∧ LotOk s.m y ∧ s.kept i y = s.kept i z ∧ (i ≠ h → y = s.kept i z) ∧ (i = h → y = a ∧ z = t) := by
  have hh := (List.getElem?_eq_some_iff.mp hu).1
  by_cases e : h = i
  · subst e
    rw [List.getElem?_set_self (by rw [show (s.keptL ss).length = ss.length from keptFrom_len s ss 0]; exact hh)] at hy
    cases hy
    exact ⟨t, List.getElem?_set_self hh, ha, hk, fun n => absurd rfl n, fun _ => ⟨rfl, rfl⟩⟩
  · rw [List.getElem?_set_ne e] at hy
    obtain ⟨z, hz, rfl⟩ : ∃ z, ss[i]? = some z ∧ y = s.kept i z := by
      have : (keptFrom s 0 ss)[i]? = some y := hy
      rw [keptFrom_at, Nat.zero_add] at this
      obtain ⟨z, h1, h2⟩ := Option.map_eq_some_iff.mp this
      exact ⟨z, h1, h2.symm⟩
    have hi := (List.getElem?_eq_some_iff.mp hz).1
    have hzl := hd.ok z (List.mem_of_getElem? hz)
    exact ⟨z, by rw [List.getElem?_set_ne e]; exact hz, lot_keptS hzl, kept_kept ok.bks (rch_in ok (by rw [← hd.len]; exact hi)) hzl, fun _ => rfl, fun n => absurd n.symm e⟩
/-- what is dropped of the first hands -/
noncomputable def dropTo (s : Hs) (h : Nat) (a t : List Int) (i : Nat) : List (List Int) := if h < i then dropF s h a t else []
theorem drop_more {s : Hs} {h : Nat} {a t y z : List Int} {i : Nat} (h1 : i ≠ h → y = s.kept i z) (h2 : i = h → y = a ∧ z = t) : dropTo s h a t i ++ (y.filter fun x => !decide (x ∈ s.kept i z)).map (fun x => [(i : Int), x]) = dropTo s h a t (i + 1) := by
  unfold dropTo
  by_cases e : i = h
  · obtain ⟨rfl, rfl⟩ := h2 e
    subst e
    rw [if_neg (by omega), if_pos (by omega)]
    rfl
  · have := h1 e
    rw [← this, List.filter_eq_nil_iff.mpr (fun x hx => by simp [hx])]
    by_cases q : h < i
    · rw [if_pos q, if_pos (by omega)]; simp
    · rw [if_neg q, if_neg (by omega)]; rfl
section
variable {P : Program} {w : World} {K : PySem.W.Frag} {mg : Str → Option Value} {base : Heap} {c : Cs} {f1 f2 f3 f4 : Addr} {t9 t6 : Tok}
theorem ok_Live_settle (T : Txt P K mg c.CB c.CL c.C1 c.C2 c.C3 c.C4 f1 f2 f3 f4 t9 t6) (d_kept_by : Dn P w K mg base CX0 3 "kept_by" ["books", "lot"] (sp_kept_by c)) (d_wanted_books : Dn P w K mg base CX0 2 "wanted_books" ["books", "roads", "hand"] (sp_wanted_books c)) {f : Addr} {fd : FuncData} (F : Fun K "settle" "Live.settle" s_Live_settle f fd) : FnOk P w K mg base CX0 4 f fd ["self", "books", "roads", "had"] (sp_Live_settle c) := by
  refine F.ok sc_Live_settle (fun vs H Q E h => ?_) (fun cdv A outer s H vs Q E hr h => ?_)
  · obtain ⟨p, b, r, l, s0, O, ss, el, la, h, a, t, u, dx, bt, rt, kt, e2, l2, as, ea, lla, rfl, rfl, L, hok, rfl, rfl, hel, hu, hl, nl, ha, ht, hk, go⟩ := h
    rfl
  · obtain ⟨p, b, r, l, s0, O, ss, el, la, h, a, t, u, dx, bt, rt, kt, e2, l2, as, ea, lla, rfl, rfl, L, hok, rfl, rfl, hel, hu, hl, nl, ha, ht, hk, go⟩ := h
    refine ⟨_, (pss_cons (ps_expr (pe_bm PySem.F.plainAttrs_list PySem.F.slot_list_append PySem.F.type_list_append mt_append (pe_fldK (K := K) rfl (pv 0)) (pa_cons (pe_tup (pa_cons (pe_fldK (K := K) rfl (pv 0)) (pa_cons (pe_fldK (K := K) rfl (pv 0)) (pa_cons (pe_fldK (K := K) rfl (pv 0)) pa_nil)))) pa_nil)))
    (pss_cons (ps_fld (pv 0) (pe_lst pa_nil) rfl)
    (pss_cons (ps_asg (pe_tup (pa_cons (pe_lst pa_nil) (pa_cons (pe_lst pa_nil) pa_nil))) (pg_tupK (K := K) rfl rfl (pgs_cons (pg_name (i := 4) sc_Live_settle.nd rfl (Or.inr rfl)) (pgs_cons (pg_name (i := 5) sc_Live_settle.nd rfl (Or.inl rfl)) pgs_nil))))
    (pss_cons (ps_for PassesOwn.never rfl (pi_enum (by rfl) T.g_enumerate (pa_cons (pv 3) pa_nil)) (pg_tupK (K := K) rfl rfl (pgs_cons (pg_name (i := 6) sc_Live_settle.nd rfl (Or.inr rfl)) (pgs_cons (pg_name (i := 7) sc_Live_settle.nd rfl (Or.inl rfl)) pgs_nil)))
    (pss_cons (ps_expr (pe_bm PySem.F.plainAttrs_list PySem.F.slot_list_append PySem.F.type_list_append mt_append (pv 4) (pa_cons (pe_dn d_kept_by (hr.mono (by decide)) pA0 (pa_cons (pe_dn d_wanted_books (hr.mono (by decide)) pA0 (pa_cons (pv 1) (pa_cons (pv 2) (pa_cons (pv 6) pa_nil)))) (pa_cons (pv 7) pa_nil))) pa_nil)))
    (pss_one (ps_set (i := 5) sc_Live_settle.nd rfl (Or.inl rfl) (pe_op op_cat (pv 5) (pe_lc (own := [("thing", 8)]) (g := (gName 8)) rfl sc_Live_settle.nd (pi_tupK (K := K) rfl (pv 7)) (blkOk_by (N := ["self", "books", "roads", "had", "kept", "dropped", "hand", "lot", "thing"]) (sc := defScope s_Live_settle) (by decide +kernel)) (fun _ _ _ _ _ => (pg_name (i := 8) sc_Live_settle.nd rfl (Or.inl rfl))) (fun _ _ _ _ _ => (pts_one (pt_cmpR (op_notInK (K := K) rfl) (pv 8) (pe_ix (ix_A (K := K) rfl) (pv 4) (pv 6) (fun _ _ => rfl)) (by rfl)))) (fun _ _ _ _ _ => (pe_tup (pa_cons (pv 6) (pa_cons (pv 8) pa_nil))))))))))
    (pss_cons (ps_asg (pe_tup (pa_cons (pv 1) (pa_cons (pv 2) (pa_cons (pe_callTy (call_tupleA (K := K) rfl) (by rfl) T.g_tuple (by decide +kernel) (pa_cons (pv 4) pa_nil)) pa_nil)))) (pg_tupK (K := K) rfl rfl (pgs_cons (pg_fld (pv 0)) (pgs_cons (pg_fld (pv 0)) (pgs_cons (pg_fld (pv 0)) pgs_nil)))))
    (pss_one (ps_ret (pe_callTy (call_tupleA (K := K) rfl) (by rfl) T.g_tuple (by decide +kernel) (pa_cons (pv 5) pa_nil))))))))), ?_⟩
    have hne : p ≠ e2 := ne_of L.ins L.els (by intro z; cases z)
    refine ⟨_, rfl, p, _, _, _, _, rfl, L.ins, T.clL, T.nL4, rfl, .inl ⟨rfl, _, SqL.of L.els⟩, _, rfl, p, _, _, _, _, rfl, L.ins, T.clL, T.nL1, rfl, _, rfl, p, _, _, _, _, rfl, L.ins, T.clL, T.nL2, rfl, _, rfl, p, _, _, _, _, rfl, L.ins, T.clL, T.nL3, rfl, (by show 3 ≤ sizeLine; decide), fun q hq => ?_⟩
    have s1 : Same H (upd H q (.tup [.ref b, .ref r, .ref kt])) := Same.new hq
    have eq1 : (upd H q (.tup [.ref b, .ref r, .ref kt])) q = some (.tup [.ref b, .ref r, .ref kt]) := upd_same
    refine ⟨e2, _, _, rfl, rfl, s1 _ _ L.els, by rw [List.length_map, Paired.len' L.ela]; exact small_lt (by omega), ?_⟩
    have f2 : Fr [p, e2, l2] H (upd (upd H q (.tup [.ref b, .ref r, .ref kt])) e2 (.lst (ea.map V.ref ++ [.ref q]))) := Fr.chg (Same.fr _ s1) (.inr (by simp))
    have ei2 : (upd (upd H q (.tup [.ref b, .ref r, .ref kt])) e2 (.lst (ea.map V.ref ++ [.ref q]))) p = some (.ins c.CL dx (liveF b r kt e2 l2)) := by rw [upd_ne hne]; exact s1 _ _ L.ins
    have ee2 : (upd (upd H q (.tup [.ref b, .ref r, .ref kt])) e2 (.lst (ea.map V.ref ++ [.ref q]))) e2 = some (.lst ((ea ++ [q]).map V.ref)) := by rw [upd_same, List.map_append]; rfl
    have eq2 : (upd (upd H q (.tup [.ref b, .ref r, .ref kt])) e2 (.lst (ea.map V.ref ++ [.ref q]))) q = some (.tup [.ref b, .ref r, .ref kt]) := by
      rw [upd_ne (ne_of eq1 (s1 _ _ L.els) (by intro z; cases z))]; exact eq1
    have el2 : (upd (upd H q (.tup [.ref b, .ref r, .ref kt])) e2 (.lst (ea.map V.ref ++ [.ref q]))) l2 = some (.lst (lla.map V.ref)) := by
      rw [upd_ne (Ne.symm L.ne)]; exact s1 _ _ L.lls
    generalize upd (upd H q (.tup [.ref b, .ref r, .ref kt])) e2 (.lst (ea.map V.ref ++ [.ref q])) = H2 at f2 ei2 ee2 eq2 el2 ⊢
    refine ⟨Nat.zero_le _, fun l3 hl3 => ⟨_, rfl, p, _, _, _, rfl, (Same.new hl3) _ _ ei2, T.clL, T.nL5, live_len _ _ _ _ _, ?_⟩⟩
    rw [put_later]
    have nl3 : l3 ∉ [p, e2, l2] := fun m => by
      simp only [List.mem_cons, List.not_mem_nil, or_false] at m
      rcases m with rfl | rfl | rfl
      · rw [ei2] at hl3; cases hl3
      · rw [ee2] at hl3; cases hl3
      · rw [el2] at hl3; cases hl3
    have hl30 : H l3 = none := f2.free nl3 hl3
    have np3 : l3 ≠ p := fun z => nl3 (by rw [z]; simp)
    have s3 : Same H2 (upd H2 l3 (.lst [])) := Same.new hl3
    have f4 : Fr [p, e2, l2] H (upd (upd H2 l3 (.lst [])) p (.ins c.CL dx (liveF b r kt e2 l3))) := Fr.chg (Fr.chg f2 (.inl hl30)) (.inr (by simp))
    have ei4 : (upd (upd H2 l3 (.lst [])) p (.ins c.CL dx (liveF b r kt e2 l3))) p = some (.ins c.CL dx (liveF b r kt e2 l3)) := upd_same
    have ee4 : (upd (upd H2 l3 (.lst [])) p (.ins c.CL dx (liveF b r kt e2 l3))) e2 = some (.lst ((ea ++ [q]).map V.ref)) := by
      rw [upd_ne (Ne.symm hne)]; exact s3 _ _ ee2
    have eq4 : (upd (upd H2 l3 (.lst [])) p (.ins c.CL dx (liveF b r kt e2 l3))) q = some (.tup [.ref b, .ref r, .ref kt]) := by
      rw [upd_ne (ne_of eq2 ei2 (by intro z; cases z))]; exact s3 _ _ eq2
    have el4 : (upd (upd H2 l3 (.lst [])) p (.ins c.CL dx (liveF b r kt e2 l3))) l3 = some (.lst []) := by
      rw [upd_ne np3]; exact upd_same
    have el5 : (upd (upd H2 l3 (.lst [])) p (.ins c.CL dx (liveF b r kt e2 l3))) l2 = some (.lst (lla.map V.ref)) := by
      rw [upd_ne (ne_of el2 ei2 (by intro z; cases z))]; exact s3 _ _ el2
    generalize upd (upd H2 l3 (.lst [])) p (.ins c.CL dx (liveF b r kt e2 l3)) = H4 at f4 ei4 ee4 eq4 el4 el5 ⊢
    refine ⟨Nat.zero_le _, fun k1 hk1 => ⟨Nat.zero_le _, fun d1 hd1 => ⟨(by show 2 ≤ sizeLine; decide), fun q2 hq2 => ?_⟩⟩⟩
    have nkd : d1 ≠ k1 := fun z => by rw [z, upd_same] at hd1; cases hd1
    have s5 : Same H4 (upd H4 k1 (.lst [])) := Same.new hk1
    have s6 : Same (upd H4 k1 (.lst [])) (upd (upd H4 k1 (.lst [])) d1 (.lst [])) := Same.new hd1
    have s7 := Same.new (o := .tup [.ref k1, .ref d1]) hq2
    have ek7 := s7 _ _ (s6 _ _ (upd_same (H := H4) (a := k1) (o := .lst [])))
    have ed7 := s7 _ _ (upd_same (H := upd H4 k1 (.lst [])) (a := d1) (o := .lst []))
    have eq7 : (upd (upd (upd H4 k1 (.lst [])) d1 (.lst [])) q2 (.tup [.ref k1, .ref d1])) q2 = some (.tup [.ref k1, .ref d1]) := upd_same
    have S7 := (Same.trans s5 s6).trans s7
    generalize upd (upd (upd H4 k1 (.lst [])) d1 (.lst [])) q2 (.tup [.ref k1, .ref d1]) = H5 at s7 ek7 ed7 eq7 S7 ⊢
    refine ⟨q2, _, rfl, SqT.of eq7, rfl, _, _, rfl, _, _, rfl, rfl, ?_⟩
    obtain ⟨hs, hl1, hl2⟩ := hl
    have f5 : Fr [p, e2, l2] H H5 := f4.same S7
    have hlH5 : H5 l = some (.lst (hs.map V.ref)) := f5 _ _ nl hl1
    have nlk : l ≠ k1 := fun z => by
      have := f4 _ _ nl hl1
      rw [z, hk1] at this; cases this
    refine ⟨_, rfl, l, _, rfl, SqL.of hlH5, for_en (K := K) (H0 := H5) (.inl ⟨rfl, hlH5⟩) (fun i σ H' => ∃ (v6 v7 : Option V) (ks : List Addr) (d : Addr), σ = [some (.ref p), some (.ref b), some (.ref r), some (.ref l), some (.ref k1), some (.ref d), v6, v7, none] ∧ But k1 H5 H' ∧ H' k1 = some (.lst (ks.map V.ref)) ∧ Lots H' ks ((s0.keptL (ss.set h t)).take i) ∧ d ≠ k1 ∧ LotL H' d (dropTo s0 h a t i))
      ⟨none, none, [], d1, rfl, But.refl _ _, ek7, .nil, nkd, [], ed7, .nil⟩ (fun i σ H' ⟨_, _, _, _, _, b', _⟩ o e => b' _ _ nlk e) ?_ ?_⟩
    · rintro i v σ H6 T' hv ⟨v6, v7, ks, d, rfl, bt6, hk6, hks, nd, hd⟩ hT
      rw [List.getElem?_map] at hv
      obtain ⟨la, hla, rfl⟩ := Option.map_eq_some_iff.mp hv
      obtain ⟨y, hy, hyl⟩ := Paired.at hl2 hla
      obtain ⟨z, hz, hyo, hyz, hy1, hy2⟩ := had_at hok L.heard hu ha hk hy
      have hzi := (List.getElem?_eq_some_iff.mp hz).1
      rw [List.length_set, L.heard.len] at hzi
      have kt5 : Kt c H H5 := f5.kt (L.nst T.neBL)
      have kt6 : Kt c H5 H6 := fun b' o st e => bt6 b' o (fun zz => by rw [zz, ek7] at e; cases e; exact nst_lst st) e
      have sT : Same H6 (upd H6 T' (.tup [.int (i : Nat), .ref la])) := Same.new hT
      have kt7 := (kt5.trans kt6).trans (Same.kt sT)
      have bt7 := bt6.same sT
      have hk7 := sT _ _ hk6
      have hks7 := hks.same sT
      have hd7 := hd.same sT
      have eT7 : (upd H6 T' (.tup [.int (i : Nat), .ref la])) T' = some (.tup [.int (i : Nat), .ref la]) := upd_same
      generalize upd H6 T' (.tup [.int (i : Nat), .ref la]) = H7 at kt7 bt7 hk7 hks7 hd7 eT7 ⊢
      refine ⟨T', _, rfl, SqT.of eT7, rfl, _, _, rfl, _, _, rfl, rfl, ?_⟩
      have hn4 := hok.rds.1
      have hnn : s0.n = (s0.bs.length : Int) := rfl
      have hrds : RdsOk (as.length : Int) s0.rs := by rw [L.len]; exact hok.rds
      refine ⟨_, rfl, .inl ⟨rfl, _, SqL.of hk7⟩, _, rfl, _, rfl, _, rfl, b, r, (i : Int), as, s0.rs, rfl, kt7.tup L.books, kt7.lotT L.roads, hrds, by omega, by rw [L.len]; omega, fun wl xs as' H8 s8 hwl hwl' hpw hxl hmem => ?_⟩
      have hbk8 : Paired (BkAt c H8 s0.m) as' (xs.map (bk s0.bs)) := wanted_bks ((Same.kt s8).bks (kt7.bks L.bks)) hpw
      have hal := Paired.len' hpw
      refine ⟨_, rfl, wl, la, as', s0.m, xs.map (bk s0.bs), y, rfl, hwl', hbk8, fun q hq => ?_, by omega, s8 _ _ (kt7.tup hyl), hyo, ?_, fun ka H9 f s9 hf hka => ?_⟩
      · obtain ⟨x, hx, rfl⟩ := List.mem_map.mp hq
        exact hok.bks.at (rch_in hok hzi x ((hmem x).mp hx))
      · have := lot_len hyo hok.m0
        have := hok.m6
        omega
      have ekept : y.filter f = s0.kept i z := by
        rw [← hyz]
        refine kept_eq fun x hx => ?_
        rw [hf]
        constructor
        · rintro ⟨q, hq, hq2⟩
          obtain ⟨x', hx', rfl⟩ := List.mem_map.mp hq
          exact ⟨x', (hmem x').mp hx', hq2⟩
        · rintro ⟨x', h1, h2⟩
          exact ⟨_, List.mem_map.mpr ⟨x', (hmem x').mpr h1, rfl⟩, h2⟩
      rw [ekept] at hka
      have S9 := s8.trans s9
      have bt9 := bt7.same S9
      have kt9 := kt7.trans (Same.kt S9)
      have hk9 := S9 _ _ hk7
      have hks9 := hks7.same S9
      have hd9 := hd7.same S9
      have hksl := Paired.len' hks
      have hzl : ((s0.keptL (ss.set h t)).take i).length = i := by
        rw [List.length_take, show (s0.keptL (ss.set h t)).length = (ss.set h t).length from keptFrom_len _ _ _, List.length_set, L.heard.len]
        omega
      refine ⟨k1, _, _, rfl, rfl, hk9, by rw [List.length_map, hksl, hzl]; exact small_lt (by omega), ?_⟩
      have b10 : But k1 H9 (upd H9 k1 (.lst (ks.map V.ref ++ [.ref ka]))) := But.self (But.refl _ _)
      have kt10 : Kt c H9 (upd H9 k1 (.lst (ks.map V.ref ++ [.ref ka]))) := fun b' o st e => b10 b' o (fun zz => by rw [zz, hk9] at e; cases e; exact nst_lst st) e
      have ek10 : (upd H9 k1 (.lst (ks.map V.ref ++ [.ref ka]))) k1 = some (.lst ((ks ++ [ka]).map V.ref)) := by rw [upd_same, List.map_append]; rfl
      have hd10 : LotL (upd H9 k1 (.lst (ks.map V.ref ++ [.ref ka]))) d (dropTo s0 h a t i) := by
        obtain ⟨ds, e1, e2'⟩ := hd9
        exact ⟨ds, b10 _ _ nd e1, kt10.lots e2'⟩
      have hks10 : Lots (upd H9 k1 (.lst (ks.map V.ref ++ [.ref ka]))) (ks ++ [ka]) ((s0.keptL (ss.set h t)).take i ++ [s0.kept i z]) := Paired.app (kt10.lots hks9) (kt10.tup hka)
      have bt10 : But k1 H5 (upd H9 k1 (.lst (ks.map V.ref ++ [.ref ka]))) := But.self bt9
      have ktt := kt9.trans kt10
      have ety : TupI (upd H9 k1 (.lst (ks.map V.ref ++ [.ref ka]))) la y := ktt.tup hyl
      generalize upd H9 k1 (.lst (ks.map V.ref ++ [.ref ka])) = H10 at ek10 hd10 hks10 bt10 ety ⊢
      have hlk : ((ks ++ [ka]).map V.ref)[i]? = some (.ref ka) := by
        rw [List.getElem?_map, List.getElem?_append_right (by omega), hksl, hzl, Nat.sub_self]; rfl
      have hka10 : TupI H10 ka (s0.kept i z) := by
        obtain ⟨q, e1, e2'⟩ := Paired.at hks10 (show (ks ++ [ka])[i]? = some ka by rw [List.getElem?_append_right (by omega), hksl, hzl, Nat.sub_self]; rfl)
        rw [List.getElem?_append_right (by omega), hzl, Nat.sub_self] at e1
        cases e1
        exact e2'
      have hyl6 : y.length ≤ 6 := by
        have := lot_len hyo hok.m0
        have := hok.m6
        omega
      refine ⟨_, rfl, _, rfl, la, rfl, ⟨_, SqT.of ety⟩, fun D hD => lc_fmT y V.int (fun x => !decide (x ∈ s0.kept i z)) (IsLotR fun x => [(i : Int), x]) (stb_lot _) ety hD (by omega) (fun x hx H' s' Rb kb => ?_) (fun x hx _ H' s' Rq kq => ?_) fun ys H11 s11 hys pp => ?_⟩
      · refine ⟨_, rfl, _, rfl, _, rfl, k1, _, _, _, rfl, rfl, .inl (SqL.of (s' _ _ ek10)), atI_nat hlk, ka, _, rfl, .inr (SqT.of (s' _ _ hka10)), rfl, flat_ints _, _, rfl, ?_⟩
        rw [inV_int]
        exact kb _ (Same.refl _)
      · exact ⟨_, rfl, _, rfl, (by show 2 ≤ sizeLine; decide), fun o ho => kq _ _ (Same.new ho) ⟨o, rfl, upd_same⟩⟩
      obtain ⟨ds2, rfl, hds2⟩ := paired_lot pp
      obtain ⟨ds, hds, hdsl⟩ := hd10
      have hdl : ds.length ≤ 6 := by
        have e1 := Paired.len' hdsl
        have e2' : (dropTo s0 h a t i).length ≤ 6 := by
          unfold dropTo
          split
          · unfold dropF
            rw [List.length_map]
            have := List.length_filter_le (fun x => !decide (x ∈ s0.kept h t)) a
            have := lot_len ha hok.m0
            have := hok.m6
            omega
          · simp
        omega
      have hdl2 : ds2.length ≤ 6 := by
        have e1 := Paired.len' hds2
        rw [List.length_map] at e1
        have := List.length_filter_le (fun x => !decide (x ∈ s0.kept i z)) y
        omega
      refine ⟨d, D, _, _, rfl, rfl, s11 _ _ hds, hys, by rw [List.length_map, List.length_map]; exact small_k (by omega), fun o ho => ?_⟩
      have s12 : Same H10 (upd H11 o (.lst (ds.map V.ref ++ ds2.map V.ref))) := Same.put s11 ho
      refine ⟨_, _, ks ++ [ka], o, rfl, bt10.same s12, s12 _ _ ek10, ?_, fun zz => ?_, ds ++ ds2, ?_, ?_⟩
      · rw [take_more1 (keptL_at hz)]
        exact hks10.same s12
      · rw [zz, s11 _ _ ek10] at ho; cases ho
      · show upd _ o _ o = _
        rw [upd_same, List.map_append]
      · rw [← drop_more hy1 hy2]
        exact Paired.app2 (hdsl.same s12) (hds2.same (Same.new ho))
    · rintro σ H6 ⟨v6, v7, ks, d, rfl, bt6, hk6, hks, nd, ⟨ds, hds, hdsl⟩⟩
      have hkl : (hs.map V.ref).length = (s0.keptL (ss.set h t)).length := by
        rw [List.length_map, Paired.len' hl2, List.length_set, show (s0.keptL (ss.set h t)).length = (ss.set h t).length from keptFrom_len _ _ _, show (s0.keptL ss).length = ss.length from keptFrom_len _ _ _, List.length_set]
      have hhl : h < (hs.map V.ref).length := by
        rw [hkl, show (s0.keptL (ss.set h t)).length = (ss.set h t).length from keptFrom_len _ _ _, List.length_set]
        exact (List.getElem?_eq_some_iff.mp hu).1
      rw [hkl, List.take_length] at hks
      rw [show dropTo s0 h a t (hs.map V.ref).length = dropF s0 h a t from if_pos hhl] at hdsl
      have hk1p : k1 ∉ [p, e2, l2] := fun m => by
        simp only [List.mem_cons, List.not_mem_nil, or_false] at m
        rcases m with rfl | rfl | rfl
        · rw [ei4] at hk1; cases hk1
        · rw [ee4] at hk1; cases hk1
        · rw [el5] at hk1; cases hk1
      have hkH : H k1 = none := f4.free hk1p hk1
      have f6 : Fr [p, e2, l2] H H6 := fun x o n e => bt6 x o (fun zz => by rw [zz, hkH] at e; cases e) (f5 x o n e)
      have kk : ∀ {x : Addr} {o : HO}, H4 x = some o → H6 x = some o := fun {x o} e => bt6 x o (fun zz => by rw [zz, hk1] at e; cases e) (S7 _ _ e)
      have ei6 := kk ei4
      have ee6 := kk ee4
      have eq6 := kk eq4
      have el6 := kk el4
      refine ⟨_, rfl, _, rfl, _, rfl, k1, _, rfl, .inl ⟨SqL.of hk6, fun kt2 hkt2 => ⟨(by show 3 ≤ sizeLine; decide), fun q3 hq3 => ?_⟩⟩⟩
      have s7' : Same H6 (upd H6 kt2 (.tup (ks.map V.ref))) := Same.new hkt2
      have s8 := Same.new (o := .tup [.ref b, .ref r, .ref kt2]) hq3
      have ekt8 := s8 _ _ (upd_same (H := H6) (a := kt2) (o := .tup (ks.map V.ref)))
      have eq8 : (upd (upd H6 kt2 (.tup (ks.map V.ref))) q3 (.tup [.ref b, .ref r, .ref kt2])) q3 = some (.tup [.ref b, .ref r, .ref kt2]) := upd_same
      have S8 := Same.trans s7' s8
      generalize upd (upd H6 kt2 (.tup (ks.map V.ref))) q3 (.tup [.ref b, .ref r, .ref kt2]) = H8 at s8 ekt8 eq8 S8 ⊢
      refine ⟨q3, _, rfl, SqT.of eq8, rfl, _, _, rfl, _, rfl, p, _, _, _, rfl, S8 _ _ ei6, T.clL, T.nL1, live_len _ _ _ _ _, _, _, rfl, _, rfl, p, _, _, _, rfl, upd_same, T.clL, T.nL2, put_len1 _ _ _ _ _ _, _, _, rfl, _, rfl, p, _, _, _, rfl, upd_same, T.clL, T.nL3, put_len3 _ _ _ _ _ _ _, rfl, ?_⟩
      rw [put_kept3, upd_upd, upd_upd]
      have fp : Fr [p] H8 (upd H8 p (.ins c.CL dx (liveF b r kt2 e2 l3))) := Fr.chg (Fr.refl _ _) (.inr (by simp))
      have f9 : Fr [p, e2, l2] H (upd H8 p (.ins c.CL dx (liveF b r kt2 e2 l3))) := Fr.chg (f6.same S8) (.inr (by simp))
      have kp : Kt c H8 (upd H8 p (.ins c.CL dx (liveF b r kt2 e2 l3))) := fp.kt fun x m => by
        obtain rfl := List.mem_singleton.mp m
        exact ⟨_, S8 _ _ ei6, nst_ins (Ne.symm T.neBL)⟩
      have lp : ∀ {x : Addr} {xs : List V}, H8 x = some (.lst xs) → (upd H8 p (.ins c.CL dx (liveF b r kt2 e2 l3))) x = some (.lst xs) := fun {x xs} e => by
        rw [upd_ne (ne_of e (S8 _ _ ei6) (by intro z; cases z))]; exact e
      have kt9 : Kt c H (upd H8 p (.ins c.CL dx (liveF b r kt2 e2 l3))) := f9.kt (L.nst T.neBL)
      refine ⟨_, rfl, d, _, rfl, .inl ⟨SqL.of (lp (S8 _ _ hds)), fun rr hrr => ?_⟩⟩
      have s10 := Same.new (o := .tup (ds.map V.ref)) hrr
      have K10 := kt9.trans (Same.kt s10)
      have K810 := kp.trans (Same.kt s10)
      refine go rr _ [p, e2, l3] (f9.same s10) (fun x m => ?_) rfl ⟨p, dx, b, r, kt2, e2, l3, as, ea ++ [q], [], rfl, ?_⟩ ?_
      · simp only [List.mem_cons, List.not_mem_nil, or_false] at m
        rcases m with rfl | rfl | rfl
        · exact .inl (by simp)
        · exact .inl (by simp)
        · exact .inr hl30
      · refine ⟨s10 _ _ upd_same, K10.tup L.books, K10.bks L.bks, K10.lotT L.roads, ⟨ks, K810.tup ekt8, K810.lots (hks.same S8)⟩, ⟨by rw [List.length_set]; exact L.heard.len, fun y hy => ?_⟩, s10 _ _ (lp (S8 _ _ ee6)), s10 _ _ (lp (S8 _ _ el6)), fun zz => nl3 (by rw [← zz]; simp), ?_, .nil, ?_, Nat.zero_le _⟩
        · rcases List.mem_or_eq_of_mem_set hy with y1 | y1
          · exact L.heard.ok y y1
          · rw [y1]; exact ht
        · exact Paired.app (K10.sts L.ela) ⟨kt, K810.tup (S8 _ _ eq6), K10.lotT L.kept, L.heard⟩
        · rw [List.length_append, List.length_singleton]; omega
      · exact ⟨ds, upd_same, (K810.lots (hdsl.same S8))⟩
end
end Ws
end
section
set_option Elab.async false
set_option linter.all false
set_option maxRecDepth 100000
set_option maxHeartbeats 4000000
namespace Ws
open PySem PySem.Spec PyProof.Rows L2
set_option autoImplicit false
/-! K41: hear, come, send. -/
theorem ixN_nat {n i : Nat} (h : i < n) : ixN n (i : Int) = some i := by
  unfold ixN
  rw [if_pos (show (0 : Int) ≤ (i : Int) from by omega)]
  simp [h]
/-- a sorted list of one lot and what the other has more: both -/
theorem uni_of {m : Int} {s x u : List Int} (hs : LotOk m s) (hx : LotOk m x) (hp : u.Perm (s ++ x.filter fun z => !decide (z ∈ s))) (hl : u.Pairwise (· ≤ ·)) : u = uni m s x := by
  have hnd : (s ++ x.filter fun z => !decide (z ∈ s)).Nodup := by
    rw [List.nodup_append]
    refine ⟨hs.1.nodup, (asc_filter _ hx.1).nodup, fun a ha b hb e => ?_⟩
    rw [List.mem_filter] at hb
    rw [← e] at hb
    simp [ha] at hb
  refine asc_ext (asc_of hl (hp.nodup_iff.mpr hnd)) (lot_uni m s x).1 fun z => ?_
  rw [hp.mem_iff, List.mem_append, List.mem_filter, mem_uni hs hx]
  constructor
  · rintro (h | ⟨h, _⟩)
    · exact .inl h
    · exact .inr h
  · rintro (h | h)
    · exact .inl h
    · by_cases q : z ∈ s
      · exact .inl q
      · exact .inr ⟨h, by simp [q]⟩
theorem LiveIn.same {c : Cs} {s : Hs} {H H' : Hp} {p dx bt rt kt el ll : Addr} {as ea la : List Addr} {ss : List (List Int)} {elder later : List (List (List Int))} (h : LiveIn c s H p dx bt rt kt el ll as ea la ss elder later) (q : Same H H') : LiveIn c s H' p dx bt rt kt el ll as ea la ss elder later :=
  ⟨q _ _ h.ins, q _ _ h.books, (Same.kt q).bks h.bks, h.roads.same q, h.kept.same q, h.heard, q _ _ h.els, q _ _ h.lls, h.ne, (Same.kt (c := c) q).sts h.ela, (Same.kt (c := c) q).sts h.lla, h.le, h.ll'⟩
theorem LiveAt.same {c : Cs} {s : Hs} {H H' : Hp} {O : List Addr} {ss : List (List Int)} {el la : List (List (List Int))} (h : LiveAt c s H O ss el la) (q : Same H H') : LiveAt c s H' O ss el la := by
  obtain ⟨p, dx, bt, rt, kt, e, l, as, ea, lla, rfl, h⟩ := h
  exact ⟨p, dx, bt, rt, kt, e, l, as, ea, lla, rfl, h.same q⟩
theorem LiveGo.same {c : Cs} {s : Hs} {H H1 : Hp} {O : List Addr} {ss : List (List Int)} {el : List (List (List Int))} {h : Nat} {a t : List Int} {Q : VK} (g : LiveGo c s H O ss el h a t Q) (q : Same H H1) : LiveGo c s H1 O ss el h a t Q := fun r H' O' f o e l d =>
  g r H' O' (Same.thenFr q f) (fun b m => (o b m).imp id fun z => Same.free q z) e l d
theorem lots_set {H : Hp} {as : List Addr} {ss : List (List Int)} {i : Nat} {a : Addr} {s : List Int} (h : Lots H as ss) (e : TupI H a s) : Lots H (as.set i a) (ss.set i s) := by
  induction h generalizing i with
  | nil => exact .nil
  | cons r t ih =>
    cases i with
    | zero => exact .cons e t
    | succ i => exact .cons r ih
section
variable {P : Program} {w : World} {K : PySem.W.Frag} {mg : Str → Option Value} {base : Heap} {c : Cs} {f1 f2 f3 f4 : Addr} {t9 t6 : Tok}
theorem ok_Live_hear (T : Txt P K mg c.CB c.CL c.C1 c.C2 c.C3 c.C4 f1 f2 f3 f4 t9 t6) (d_Live_settle : Dm P w K mg base CX0 4 c.CL "settle" ["self", "books", "roads", "had"] ["books", "roads", "had"] (sp_Live_settle c)) {f : Addr} {fd : FuncData} (F : Fun K "hear" "Live.hear" s_Live_hear f fd) : FnOk P w K mg base CX0 5 f fd ["self", "hand", "lot"] (sp_Live_hear c) := by
  refine F.ok sc_Live_hear (fun vs H Q E h => ?_) (fun cdv A outer s H vs Q E hr h => ?_)
  · obtain ⟨p, r, s0, O, ss, el, la, h, u, n, x, rfl, hO, hL, hok, hel, hu, hr0, hhear, go⟩ := h
    rfl
  · obtain ⟨p, r, s0, O, ss, el, la, h, u, n, x, rfl, hO, hL, hok, hel, hu, hr0, hhear, go⟩ := h
    refine ⟨_, (pss_cons (ps_set (i := 3) sc_Live_hear.nd rfl (Or.inr rfl) (pe_callTy (call_listA (K := K) rfl) (by rfl) T.g_list (by decide +kernel) (pa_cons (pe_fldK (K := K) rfl (pv 0)) pa_nil)))
    (pss_cons (ps_asg (pe_callTy (call_tupleA (K := K) rfl) (by rfl) T.g_tuple (by decide +kernel) (pa_cons (pe_callB cr_sortedTI (by rfl) T.g_sorted (by decide +kernel) (pa_cons (pe_op (op_catAK (K := K) rfl) (pe_ix (ix_A (K := K) rfl) (pv 3) (pv 1) (fun _ _ => rfl)) (pe_callTy (call_tupleA (K := K) rfl) (by rfl) T.g_tuple (by decide +kernel) (pa_cons (pe_lc (own := [("thing", 4)]) (g := (gName 4)) rfl sc_Live_hear.nd (pi_tupK (K := K) rfl (pv 2)) (blkOk_by (N := ["self", "hand", "lot", "had", "thing"]) (sc := defScope s_Live_hear) (by decide +kernel)) (fun _ _ _ _ _ => (pg_name (i := 4) sc_Live_hear.nd rfl (Or.inl rfl))) (fun _ _ _ _ _ => (pts_one (pt_cmpR (op_notInK (K := K) rfl) (pv 4) (pe_ix (ix_A (K := K) rfl) (pv 3) (pv 1) (fun _ _ => rfl)) (by rfl)))) (fun _ _ _ _ _ => (pv 4))) pa_nil))) pa_nil)) pa_nil)) (pg_sub (pv 3) (pv 1) set_list))
    (pss_one (ps_ret (pe_dm d_Live_settle (pv 0) T.clL (hr.mono (by decide)) pA0 (pa_cons (pe_fldK (K := K) rfl (pv 0)) (pa_cons (pe_fldK (K := K) rfl (pv 0)) (pa_cons (pv 3) pa_nil)))))))), ?_⟩
    obtain ⟨dx, bt, rt, kt, e2, l2, as, ea, lla, rfl, L⟩ := hL.at hO
    obtain ⟨hn, hx, hxn, hlst⟩ := hhear
    obtain ⟨ks, hkt, hks⟩ := L.kept
    have hul := L.heard.ok u (List.mem_of_getElem? hu)
    have hh := (List.getElem?_eq_some_iff.mp hu).1
    have hhb : h < s0.bs.length := by rw [← L.heard.len]; exact hh
    have hku := lot_keptS (s := s0) (h := h) hul
    obtain ⟨ka, hka, hkk⟩ := Paired.at2 hks (keptL_at hu)
    have hkh := (List.getElem?_eq_some_iff.mp hka).1
    refine ⟨_, rfl, p, _, _, _, _, rfl, L.ins, T.clL, T.nL3, rfl, kt, _, rfl, .inr (SqT.of hkt), fun hl hhl => ?_⟩
    have s1 : Same H (upd H hl (.lst (ks.map V.ref))) := Same.new hhl
    have eh1 : (upd H hl (.lst (ks.map V.ref))) hl = some (.lst (ks.map V.ref)) := upd_same
    have hxl : x.length ≤ 6 := by
      have := lot_len hx hok.m0
      have := hok.m6
      omega
    have hkl : (s0.kept h u).length ≤ 6 := by
      have := lot_len hku hok.m0
      have := hok.m6
      omega
    refine ⟨_, rfl, _, rfl, hl, _, _, _, rfl, rfl, .inl (SqL.of eh1), atI_nat (map_at hka), ?_⟩
    refine ⟨_, rfl, r, rfl, ⟨_, SqT.of (s1 _ _ hr0)⟩, fun D hD => lc_fmT x V.int (fun z => !decide (z ∈ s0.kept h u)) (IsIntR id) (stb_int _) (s1 _ _ hr0) hD (by omega) (fun z hz H' s' Rb kb => ?_) (fun z hz _ H' s' Rq kq => ?_) fun ys H2 s2 hys pp => ?_⟩
    · refine ⟨_, rfl, _, rfl, _, rfl, hl, _, _, _, rfl, rfl, .inl (SqL.of (s' _ _ eh1)), atI_nat (map_at hka), ka, _, rfl, .inr (SqT.of (s' _ _ (s1 _ _ hkk))), rfl, flat_ints _, _, rfl, ?_⟩
      rw [inV_int]
      exact kb _ (Same.refl _)
    · exact ⟨_, rfl, kq _ _ (Same.refl _) rfl⟩
    rw [paired_int pp, map_id_int] at hys
    refine ⟨D, _, rfl, .inl ⟨SqL.of hys, fun e1 he1 => ?_⟩⟩
    have S2 := s1.trans s2
    have s3 : Same H2 (upd H2 e1 (.tup ((x.filter fun z => !decide (z ∈ s0.kept h u)).map V.int))) := Same.new he1
    have hfl := List.length_filter_le (fun z => !decide (z ∈ s0.kept h u)) x
    refine cat_read (s3 _ _ (S2 _ _ hkk)) upd_same (by omega) fun r2 H4 s4 hr2 => ?_
    refine ⟨r2, _, rfl, SqT.of hr2, fun u' p3 hp hle hn3 => ⟨p3, _, rfl, .inl ⟨SqL.of upd_same, fun a2 ha2n => ?_⟩⟩⟩
    have eu : u' = uni s0.m (s0.kept h u) x := uni_of hku hx hp hle
    subst eu
    have s5 : Same H4 (upd (upd H4 p3 (.lst ((uni s0.m (s0.kept h u) x).map V.int))) a2 (.tup ((uni s0.m (s0.kept h u) x).map V.int))) := Same.put (Same.new hn3) ha2n
    have ha2 : TupI (upd (upd H4 p3 (.lst ((uni s0.m (s0.kept h u) x).map V.int))) a2 (.tup ((uni s0.m (s0.kept h u) x).map V.int))) a2 (uni s0.m (s0.kept h u) x) := upd_same
    generalize upd (upd H4 p3 (.lst ((uni s0.m (s0.kept h u) x).map V.int))) a2 (.tup ((uni s0.m (s0.kept h u) x).map V.int)) = H5 at s5 ha2
    have S5 : Same H H5 := ((S2.trans s3).trans s4).trans s5
    have S15 := ((Same.trans s2 s3).trans s4).trans s5
    have eh5 := S15 _ _ eh1
    refine ⟨_, rfl, _, rfl, hl, _, _, h, rfl, rfl, eh5, ixN_nat (by rw [List.length_map]; exact hkh), ?_⟩
    have S6 : Same H (upd H5 hl (.lst ((ks.map V.ref).set h (.ref a2)))) := Same.chg S5 hhl
    have keep : ∀ b o, b ≠ hl → H5 b = some o → (upd H5 hl (.lst ((ks.map V.ref).set h (.ref a2)))) b = some o := fun b o n e => by rw [upd_ne n]; exact e
    have hL6 : LotL (upd H5 hl (.lst ((ks.map V.ref).set h (.ref a2)))) hl ((s0.keptL ss).set h (uni s0.m (s0.kept h u) x)) := by
      refine ⟨ks.set h a2, by rw [upd_same, List.map_set], lots_set (hks.same S6) ?_⟩
      exact keep _ _ (ne_of ha2 eh5 (by intro z; cases z)) ha2
    have L6 := L.same S6
    have nhl : hl ∉ [p, e2, l2] := fun m => by
      simp only [List.mem_cons, List.not_mem_nil, or_false] at m
      rcases m with rfl | rfl | rfl
      · rw [L.ins] at hhl; cases hhl
      · rw [L.els] at hhl; cases hhl
      · rw [L.lls] at hhl; cases hhl
    have hkk2 : s0.kept h (uni s0.m (s0.kept h u) x) = s0.kept h (uni s0.m u n) :=
      kept_hear hok.bks (rch_in hok hhb) hul hn (lot_uni _ _ _) (lot_uni _ _ _).1 (fun z => mem_uni hul hn) (fun z => mem_uni hku hx) hxn hlst
    refine ⟨_, rfl, p, _, _, rfl, L6.ins, rfl, _, rfl, p, _, _, _, _, rfl, L6.ins, T.clL, T.nL1, rfl, _, rfl, p, _, _, _, _, rfl, L6.ins, T.clL, T.nL2, rfl, _, rfl, ?_⟩
    exact ⟨p, bt, rt, hl, s0, _, ss, el, la, h, _, _, u, dx, bt, rt, kt, e2, l2, as, ea, lla, rfl, rfl, L6, hok, rfl, rfl, hel, hu, hL6, nhl, lot_uni _ _ _, lot_uni _ _ _, hkk2, go.same S6⟩
theorem isB_int {n : Int} {v : V} (h : isB n v = true) (hn : 0 ≤ n) : ∃ i : Nat, v = .int (i : Int) ∧ (i : Int) < n := by
  cases v with
  | int i =>
    have z' : (decide (0 ≤ i) && decide (i < n)) = true := h
    simp only [Bool.and_eq_true, decide_eq_true_eq] at z'
    exact ⟨i.toNat, by rw [show ((i.toNat : Nat) : Int) = i by omega], by omega⟩
  | _ => cases h
theorem lot_one {m x : Int} (h0 : 0 ≤ x) (h1 : x < m) : LotOk m [x] := by
  have h : LotOk m (insA x []) := (LotOk.nil m).ins (by simp) h0 h1
  exact h
theorem lst_sub' {g : List Int → Int} {k : Nat} {s : List Int} {z : Int} (h : z ∈ lst g k s) : z ∈ s := lst_in h
theorem ok_Live_come (T : Txt P K mg c.CB c.CL c.C1 c.C2 c.C3 c.C4 f1 f2 f3 f4 t9 t6) (d_Live_hear : Dm P w K mg base CX0 5 c.CL "hear" ["self", "hand", "lot"] ["hand", "lot"] (sp_Live_hear c)) (d_Live_need_hand : Dm P w K mg base (L2.CX P w) 4 c.CL "need_hand" ["self", "value", "word"] ["value", "word"] (sp_Live_need_hand c)) (d_is_below : Dn P w K mg base CX0 3 "is_below" ["value", "many"] (sp_is_below c)) {f : Addr} {fd : FuncData} (F : Fun K "come" "Live.come" s_Live_come f fd) : FnOk P w K mg base (L2.CX P w) 6 f fd ["self", "hand", "thing"] (sp_Live_come c) := by
  refine F.okX sc_Live_come (fun vs H Q E h => ?_) (fun cdv A outer s H vs Q E hr h => ?_)
  · obtain ⟨p, s0, O, ss, el, la, v, w0, rfl, hO, hL, hok, hel, hkv, hkw, kF1, kF2, kT⟩ := h
    rfl
  · obtain ⟨p, s0, O, ss, el, la, v, w0, rfl, hO, hL, hok, hel, hkv, hkw, kF1, kF2, kT⟩ := h
    refine ⟨_, (pss_cons (ps_expr (pe_dm d_Live_need_hand (pv 0) T.clL (hr.mono (by decide)) (fun σ => passAt (takes_of rfl rfl rfl rfl) σ) (pa_cons (pv 1) (pa_cons pe_str pa_nil))))
    (pss_cons (ps_if (pt_not (pt_val (pe_dn d_is_below (hr.mono (by decide)) pA0 (pa_cons (pv 2) (pa_cons (pe_fldK (K := K) rfl (pe_ix (ix_A (K := K) rfl) (pe_fldK (K := K) rfl (pv 0)) pe_int (fun _ _ => rfl))) pa_nil)))))
    (pss_one (ps_raiseX rfl T.x_Refused hr (takes_of rfl rfl rfl rfl) pe_str))
    pss_nil)
    (pss_one (ps_ret (pe_dm d_Live_hear (pv 0) T.clL (hr.mono (by decide)) pA0 (pa_cons (pv 1) (pa_cons (pe_tup (pa_cons (pv 2) pa_nil)) pa_nil))))))), ?_⟩
    obtain ⟨dx, bt, rt, kt, e2, l2, as, ea, lla, rfl, L⟩ := hL.at hO
    refine ⟨_, rfl, p, _, _, rfl, L.ins, rfl, _, rfl, p, s0, _, ss, el, la, v, _, rfl, hO, hL, hkv, fun z => ?_, fun z => kF1 z⟩
    have hnn : s0.n = (s0.bs.length : Int) := rfl
    obtain ⟨h, rfl, hh⟩ := isB_int z (by omega)
    have hhs : h < ss.length := by rw [L.heard.len]; omega
    obtain ⟨u, hu⟩ : ∃ u, ss[h]? = some u := ⟨ss[h], by simp [hhs]⟩
    have hn1 := hok.n1
    obtain ⟨b0, hb0⟩ : ∃ b, s0.bs[0]? = some b := ⟨s0.bs[0], by simp⟩
    obtain ⟨a0, ha0, hbk0⟩ := Paired.at2 L.bks hb0
    obtain ⟨dxb, gs, db, eb, _⟩ := hbk0.at_
    refine ⟨_, rfl, _, rfl, p, _, _, _, _, rfl, L.ins, T.clL, T.nL1, rfl, bt, _, _, _, rfl, rfl, .inr (SqT.of L.books), atI0 (map_at ha0), a0, _, _, _, _, rfl, eb, T.clB, T.nB1, rfl, w0, s0.m, rfl, hkw, _, rfl, ?_⟩
    cases z2 : isB s0.m w0 with
    | false => exact iteT fun d hd => kF2 z z2 _ d (Same.new hd) hd upd_same
    | true =>
      obtain ⟨x, rfl, hx⟩ := isB_int z2 hok.m0
      have go := kT h (x : Int) u rfl rfl hu (by omega) hx
      refine iteF ⟨_, rfl, p, _, _, rfl, L.ins, rfl, _, rfl, _, rfl, (by show 1 ≤ sizeLine; decide), fun q hq => ?_⟩
      have s1 : Same H (upd H q (.tup [.int (x : Int)])) := Same.new hq
      have hl1 := lot_one (m := s0.m) (show (0 : Int) ≤ (x : Int) by omega) hx
      exact ⟨p, q, s0, _, ss, el, la, h, u, [(x : Int)], [(x : Int)], rfl, rfl, hL.same s1, hok, hel, hu, upd_same, ⟨hl1, hl1, fun _ h => h, fun y _ zz hz => lst_in hz⟩, go.same s1⟩
theorem ok_Live_send (T : Txt P K mg c.CB c.CL c.C1 c.C2 c.C3 c.C4 f1 f2 f3 f4 t9 t6) (d_Live_hear : Dm P w K mg base CX0 5 c.CL "hear" ["self", "hand", "lot"] ["hand", "lot"] (sp_Live_hear c)) (d_Live_need_two_hands : Dm P w K mg base (L2.CX P w) 5 c.CL "need_two_hands" ["self", "hand", "to"] ["hand", "to"] (sp_Live_need_two_hands c)) {f : Addr} {fd : FuncData} (F : Fun K "send" "Live.send" s_Live_send f fd) : FnOk P w K mg base (L2.CX P w) 6 f fd ["self", "hand", "to"] (sp_Live_send c) := by
  refine F.okX sc_Live_send (fun vs H Q E h => ?_) (fun cdv A outer s H vs Q E hr h => ?_)
  · obtain ⟨p, s0, O, ss, el, la, v, w0, rfl, hO, hL, hok, hel, hkv, hkw, kF1, kF2, kF3, kT⟩ := h
    rfl
  · obtain ⟨p, s0, O, ss, el, la, v, w0, rfl, hO, hL, hok, hel, hkv, hkw, kF1, kF2, kF3, kT⟩ := h
    refine ⟨_, (pss_cons (ps_expr (pe_dm d_Live_need_two_hands (pv 0) T.clL (hr.mono (by decide)) (fun σ => passAt (takes_of rfl rfl rfl rfl) σ) (pa_cons (pv 1) (pa_cons (pv 2) pa_nil))))
    (pss_cons (ps_if (pt_cmpR (op_notInT (un65 hr)) (pe_tup (pa_cons (pv 1) (pa_cons (pv 2) pa_nil))) (pe_fldK (K := K) rfl (pv 0)) (by rfl))
    (pss_one (ps_raiseX rfl T.x_Refused hr (takes_of rfl rfl rfl rfl) pe_str))
    pss_nil)
    (pss_one (ps_ret (pe_dm d_Live_hear (pv 0) T.clL (hr.mono (by decide)) pA0 (pa_cons (pv 2) (pa_cons (pe_ix (ix_A (K := K) rfl) (pe_fldK (K := K) rfl (pv 0)) (pv 1) (fun _ _ => rfl)) pa_nil))))))), ?_⟩
    obtain ⟨dx, bt, rt, kt, e2, l2, as, ea, lla, rfl, L⟩ := hL.at hO
    refine ⟨_, rfl, p, _, _, rfl, L.ins, rfl, _, rfl, _, rfl, p, s0, _, ss, el, la, v, w0, rfl, hO, hL, hkv, hkw, fun z z2 => ?_, fun z => kF1 z, fun z z2 => kF2 z z2⟩
    have hnn : s0.n = (s0.bs.length : Int) := rfl
    obtain ⟨i, rfl, hi⟩ := isB_int z (by omega)
    obtain ⟨j, rfl, hj⟩ := isB_int z2 (by omega)
    have his : i < ss.length := by rw [L.heard.len]; omega
    have hjs : j < ss.length := by rw [L.heard.len]; omega
    obtain ⟨u, hu⟩ : ∃ u, ss[i]? = some u := ⟨ss[i], by simp [his]⟩
    obtain ⟨u2, hu2⟩ : ∃ u, ss[j]? = some u := ⟨ss[j], by simp [hjs]⟩
    refine ⟨_, rfl, _, rfl, (by show 2 ≤ sizeLine; decide), fun q hq => ?_⟩
    have s1 : Same H (upd H q (.tup [.int (i : Int), .int (j : Int)])) := Same.new hq
    have eq1 : TupI (upd H q (.tup [.int (i : Int), .int (j : Int)])) q (pr ((i : Int), (j : Int))) := upd_same
    generalize upd H q (.tup [.int (i : Int), .int (j : Int)]) = H1 at s1 eq1 ⊢
    have L1 := L.same s1
    refine ⟨_, rfl, p, _, _, _, _, rfl, L1.ins, T.clL, T.nL2, rfl, lotD (pr ((i : Int), (j : Int))), lotsD (s0.rs.map pr), dp_lot eq1, dp_lotT L1.roads, sh_lot _, sh_lotT _, _, rfl, ?_⟩
    rw [any_lots]
    by_cases hin : ((i : Int), (j : Int)) ∈ s0.rs
    · rw [decide_eq_true (mem_pr.mpr hin)]
      obtain ⟨ks, hkt, hks⟩ := L1.kept
      obtain ⟨ka, hka, hkk⟩ := Paired.at2 hks (keptL_at hu)
      have hul := L.heard.ok u (List.mem_of_getElem? hu)
      have go := kT i j u u2 rfl rfl hu hu2 hin
      refine iteF ⟨_, rfl, p, _, _, rfl, L1.ins, rfl, _, rfl, _, rfl, p, _, _, _, _, rfl, L1.ins, T.clL, T.nL3, rfl, _, rfl, kt, _, _, _, rfl, rfl, .inr (SqT.of hkt), atI_nat (map_at hka), ?_⟩
      refine ⟨p, ka, s0, _, ss, el, la, j, u2, u, s0.kept i u, rfl, rfl, hL.same s1, hok, hel, hu2, hkk, ⟨hul, lot_keptS hul, fun zz hz => (mem_kept.mp hz).1, fun y hy zz hz => ?_⟩, go.same s1⟩
      exact mem_kept.mpr ⟨lst_in hz, y, hy.from hin, hz⟩
    · rw [decide_eq_false (fun zz => hin (mem_pr.mp zz))]
      exact iteT fun d hd => kF3 (i : Int) (j : Int) rfl rfl (by omega) (by omega) (by omega) (by omega) hin _ d (Same.put s1 hd) (Same.free s1 hd) upd_same
end
end Ws
end
section
set_option Elab.async false
set_option linter.all false
set_option maxRecDepth 100000
set_option maxHeartbeats 4000000
namespace Ws
open PySem PySem.Spec PyProof.Rows L2
set_option autoImplicit false
/-! K42: undo, redo. -/
theorem Paired.snoc {α β : Type} {F : α → β → Prop} : ∀ {l : List α} {m : List β} {b : β}, Paired F l (m ++ [b]) → ∃ l' a, l = l' ++ [a] ∧ Paired F l' m ∧ F a b
  | [], m, b, h => by have := Paired.len' h; simp at this
  | x :: r, [], b, h => by
    cases h with
    | cons r1 t => cases t; exact ⟨[], x, rfl, .nil, r1⟩
  | x :: r, y :: m, b, h => by
    cases h with
    | cons r1 t =>
      obtain ⟨l', a, e, p, q⟩ := Paired.snoc t
      exact ⟨x :: l', a, by rw [e]; rfl, .cons r1 p, q⟩
section
variable {P : Program} {w : World} {K : PySem.W.Frag} {mg : Str → Option Value} {base : Heap} {c : Cs} {f1 f2 f3 f4 : Addr} {t9 t6 : Tok}
theorem ok_Live_undo_deed (T : Txt P K mg c.CB c.CL c.C1 c.C2 c.C3 c.C4 f1 f2 f3 f4 t9 t6)  {f : Addr} {fd : FuncData} (F : Fun K "undo_deed" "Live.undo_deed" s_Live_undo_deed f fd) : FnOk P w K mg base CX0 1 f fd ["self"] (sp_Live_undo_deed c) := by
  refine F.ok sc_Live_undo_deed (fun vs H Q E h => ?_) (fun cdv A outer s H vs Q E hr h => ?_)
  · obtain ⟨p, s0, O, ss, el, la, rfl, hO, hL, hsz, kF, kT⟩ := h
    rfl
  · obtain ⟨p, s0, O, ss, el, la, rfl, hO, hL, hsz, kF, kT⟩ := h
    refine ⟨_, (pss_cons (ps_if (pt_cmpR op_eq (pe_callB (call_lenA (K := K) rfl) (by rfl) T.g_len (by decide +kernel) (pa_cons (pe_fldK (K := K) rfl (pv 0)) pa_nil)) pe_int (nomark _))
    (pss_one (ps_ret pe_bl))
    pss_nil)
    (pss_cons (ps_expr (pe_bm PySem.F.plainAttrs_list PySem.F.slot_list_append PySem.F.type_list_append mt_append (pe_fldK (K := K) rfl (pv 0)) (pa_cons (pe_tup (pa_cons (pe_fldK (K := K) rfl (pv 0)) (pa_cons (pe_fldK (K := K) rfl (pv 0)) (pa_cons (pe_fldK (K := K) rfl (pv 0)) pa_nil)))) pa_nil)))
    (pss_cons (ps_asg (pe_bm0 PySem.F.plainAttrs_list PySem.F.slot_list_pop PySem.F.type_list_pop mt_pop (pe_fldK (K := K) rfl (pv 0))) (pg_tupK (K := K) rfl rfl (pgs_cons (pg_fld (pv 0)) (pgs_cons (pg_fld (pv 0)) (pgs_cons (pg_fld (pv 0)) pgs_nil)))))
    (pss_one (ps_ret pe_bl))))), ?_⟩
    obtain ⟨dx, bt, rt, kt, e2, l2, as, ea, lla, rfl, L⟩ := hL.at hO
    have hne : p ≠ e2 := ne_of L.ins L.els (by intro z; cases z)
    have hnl : p ≠ l2 := ne_of L.ins L.lls (by intro z; cases z)
    refine ⟨_, rfl, p, _, _, _, _, rfl, L.ins, T.clL, T.nL4, rfl, e2, _, rfl, .inl (SqL.of L.els), rfl, _, rfl, ?_⟩
    rw [dec_int, List.length_map, Paired.len' L.ela]
    rcases List.eq_nil_or_concat el with rfl | ⟨e, t, rfl⟩
    · exact iteT (kF rfl)
    rw [List.concat_eq_append]
    rw [List.concat_eq_append] at L kT
    have hlen : (((e ++ [t]).length : Nat) : Int) ≠ 0 := by rw [List.length_append, List.length_singleton]; omega
    rw [show ((((e ++ [t]).length : Nat) : Int) == 0) = false from by simpa using hlen]
    obtain ⟨xa, a, rfl, hp1, ⟨kt2, ea2, hk2, hh2⟩⟩ := Paired.snoc L.ela
    refine iteF ⟨_, rfl, p, _, _, _, _, rfl, L.ins, T.clL, T.nL5, rfl, .inl ⟨rfl, _, SqL.of L.lls⟩, _, rfl, p, _, _, _, _, rfl, L.ins, T.clL, T.nL1, rfl, _, rfl, p, _, _, _, _, rfl, L.ins, T.clL, T.nL2, rfl, _, rfl, p, _, _, _, _, rfl, L.ins, T.clL, T.nL3, rfl, (by show 3 ≤ sizeLine; decide), fun q hq => ?_⟩
    have s1 : Same H (upd H q (.tup [.ref bt, .ref rt, .ref kt])) := Same.new hq
    have eq1 : (upd H q (.tup [.ref bt, .ref rt, .ref kt])) q = some (.tup [.ref bt, .ref rt, .ref kt]) := upd_same
    refine ⟨l2, _, _, rfl, rfl, s1 _ _ L.lls, by rw [List.length_map, Paired.len' L.lla]; exact small_lt (by omega), ?_⟩
    have f2 : Fr [p, e2, l2] H (upd (upd H q (.tup [.ref bt, .ref rt, .ref kt])) l2 (.lst (lla.map V.ref ++ [.ref q]))) := Fr.chg (Same.fr _ s1) (.inr (by simp))
    have ei2 : (upd (upd H q (.tup [.ref bt, .ref rt, .ref kt])) l2 (.lst (lla.map V.ref ++ [.ref q]))) p = some (.ins c.CL dx (liveF bt rt kt e2 l2)) := by rw [upd_ne hnl]; exact s1 _ _ L.ins
    have ela2 : (upd (upd H q (.tup [.ref bt, .ref rt, .ref kt])) l2 (.lst (lla.map V.ref ++ [.ref q]))) l2 = some (.lst ((lla ++ [q]).map V.ref)) := by rw [upd_same, List.map_append]; rfl
    have eq2 : (upd (upd H q (.tup [.ref bt, .ref rt, .ref kt])) l2 (.lst (lla.map V.ref ++ [.ref q]))) q = some (.tup [.ref bt, .ref rt, .ref kt]) := by
      rw [upd_ne (ne_of eq1 (s1 _ _ L.lls) (by intro z; cases z))]; exact eq1
    have eel2 : (upd (upd H q (.tup [.ref bt, .ref rt, .ref kt])) l2 (.lst (lla.map V.ref ++ [.ref q]))) e2 = some (.lst ((xa ++ [a]).map V.ref)) := by
      rw [upd_ne L.ne]; exact s1 _ _ L.els
    generalize upd (upd H q (.tup [.ref bt, .ref rt, .ref kt])) l2 (.lst (lla.map V.ref ++ [.ref q])) = H2 at f2 ei2 ela2 eq2 eel2 ⊢
    have K2 : Kt c H H2 := f2.kt (L.nst T.neBL)
    refine ⟨_, rfl, p, _, _, _, _, rfl, ei2, T.clL, T.nL4, rfl, .inl ⟨rfl, _, SqL.of eel2⟩, e2, _, .ref a, rfl, rfl, eel2, ?_, ?_⟩
    · rw [List.length_map, List.length_append, List.length_singleton, List.getElem?_map, Nat.add_sub_cancel, List.getElem?_append_right (Nat.le_refl _), Nat.sub_self]; rfl
    rw [List.map_append, show ([a].map V.ref) = [V.ref a] from rfl, List.dropLast_concat]
    have f3 : Fr [p, e2, l2] H (upd H2 e2 (.lst (xa.map V.ref))) := Fr.chg f2 (.inr (by simp))
    have ei3 : (upd H2 e2 (.lst (xa.map V.ref))) p = some (.ins c.CL dx (liveF bt rt kt e2 l2)) := by rw [upd_ne hne]; exact ei2
    have ela3 : (upd H2 e2 (.lst (xa.map V.ref))) l2 = some (.lst ((lla ++ [q]).map V.ref)) := by rw [upd_ne (Ne.symm L.ne)]; exact ela2
    have eel3 : (upd H2 e2 (.lst (xa.map V.ref))) e2 = some (.lst (xa.map V.ref)) := upd_same
    have eq3 : (upd H2 e2 (.lst (xa.map V.ref))) q = some (.tup [.ref bt, .ref rt, .ref kt]) := by
      rw [upd_ne (ne_of eq2 eel2 (by intro z; cases z))]; exact eq2
    generalize upd H2 e2 (.lst (xa.map V.ref)) = H3 at f3 ei3 ela3 eel3 eq3 ⊢
    have K3 : Kt c H H3 := f3.kt (L.nst T.neBL)
    refine ⟨a, _, rfl, SqT.of (K3.tup ea2), rfl, _, _, rfl, _, rfl, p, _, _, _, rfl, ei3, T.clL, T.nL1, live_len _ _ _ _ _, _, _, rfl, _, rfl, p, _, _, _, rfl, upd_same, T.clL, T.nL2, put_len1 _ _ _ _ _ _, _, _, rfl, _, rfl, p, _, _, _, rfl, upd_same, T.clL, T.nL3, put_len3 _ _ _ _ _ _ _, rfl, ?_⟩
    rw [put_kept3, upd_upd, upd_upd]
    have f4 : Fr [p, e2, l2] H (upd H3 p (.ins c.CL dx (liveF bt rt kt2 e2 l2))) := Fr.chg f3 (.inr (by simp))
    have K4 : Kt c H (upd H3 p (.ins c.CL dx (liveF bt rt kt2 e2 l2))) := f4.kt (L.nst T.neBL)
    have eq4 : (upd H3 p (.ins c.CL dx (liveF bt rt kt2 e2 l2))) q = some (.tup [.ref bt, .ref rt, .ref kt]) := by
      rw [upd_ne (ne_of eq3 ei3 (by intro z; cases z))]; exact eq3
    have ela4 : (upd H3 p (.ins c.CL dx (liveF bt rt kt2 e2 l2))) l2 = some (.lst ((lla ++ [q]).map V.ref)) := by
      rw [upd_ne (Ne.symm hnl)]; exact ela3
    have eel4 : (upd H3 p (.ins c.CL dx (liveF bt rt kt2 e2 l2))) e2 = some (.lst (xa.map V.ref)) := by
      rw [upd_ne (Ne.symm hne)]; exact eel3
    have hl1 := L.le
    rw [List.length_append, List.length_singleton] at hl1
    refine kT e t rfl _ [p, e2, l2] f4 (fun b m => .inl m) rfl ⟨p, dx, bt, rt, kt2, e2, l2, as, xa, (lla ++ [q]), rfl, ?_⟩
    exact ⟨upd_same, K4.tup L.books, K4.bks L.bks, K4.lotT L.roads, K4.lotT hk2, hh2, eel4, ela4, L.ne, K4.sts hp1, Paired.app (K4.sts L.lla) ⟨kt, eq4, K4.lotT L.kept, L.heard⟩, by omega, by rw [List.length_append, List.length_singleton]; omega⟩
theorem ok_Live_redo_deed (T : Txt P K mg c.CB c.CL c.C1 c.C2 c.C3 c.C4 f1 f2 f3 f4 t9 t6)  {f : Addr} {fd : FuncData} (F : Fun K "redo_deed" "Live.redo_deed" s_Live_redo_deed f fd) : FnOk P w K mg base CX0 1 f fd ["self"] (sp_Live_redo_deed c) := by
  refine F.ok sc_Live_redo_deed (fun vs H Q E h => ?_) (fun cdv A outer s H vs Q E hr h => ?_)
  · obtain ⟨p, s0, O, ss, el, la, rfl, hO, hL, hsz, kF, kT⟩ := h
    rfl
  · obtain ⟨p, s0, O, ss, el, la, rfl, hO, hL, hsz, kF, kT⟩ := h
    refine ⟨_, (pss_cons (ps_if (pt_cmpR op_eq (pe_callB (call_lenA (K := K) rfl) (by rfl) T.g_len (by decide +kernel) (pa_cons (pe_fldK (K := K) rfl (pv 0)) pa_nil)) pe_int (nomark _))
    (pss_one (ps_ret pe_bl))
    pss_nil)
    (pss_cons (ps_expr (pe_bm PySem.F.plainAttrs_list PySem.F.slot_list_append PySem.F.type_list_append mt_append (pe_fldK (K := K) rfl (pv 0)) (pa_cons (pe_tup (pa_cons (pe_fldK (K := K) rfl (pv 0)) (pa_cons (pe_fldK (K := K) rfl (pv 0)) (pa_cons (pe_fldK (K := K) rfl (pv 0)) pa_nil)))) pa_nil)))
    (pss_cons (ps_asg (pe_bm0 PySem.F.plainAttrs_list PySem.F.slot_list_pop PySem.F.type_list_pop mt_pop (pe_fldK (K := K) rfl (pv 0))) (pg_tupK (K := K) rfl rfl (pgs_cons (pg_fld (pv 0)) (pgs_cons (pg_fld (pv 0)) (pgs_cons (pg_fld (pv 0)) pgs_nil)))))
    (pss_one (ps_ret pe_bl))))), ?_⟩
    obtain ⟨dx, bt, rt, kt, e2, l2, as, ea, lla, rfl, L⟩ := hL.at hO
    have hne : p ≠ e2 := ne_of L.ins L.els (by intro z; cases z)
    have hnl : p ≠ l2 := ne_of L.ins L.lls (by intro z; cases z)
    refine ⟨_, rfl, p, _, _, _, _, rfl, L.ins, T.clL, T.nL5, rfl, l2, _, rfl, .inl (SqL.of L.lls), rfl, _, rfl, ?_⟩
    rw [dec_int, List.length_map, Paired.len' L.lla]
    rcases List.eq_nil_or_concat la with rfl | ⟨e, t, rfl⟩
    · exact iteT (kF rfl)
    rw [List.concat_eq_append]
    rw [List.concat_eq_append] at L kT
    have hlen : (((e ++ [t]).length : Nat) : Int) ≠ 0 := by rw [List.length_append, List.length_singleton]; omega
    rw [show ((((e ++ [t]).length : Nat) : Int) == 0) = false from by simpa using hlen]
    obtain ⟨xa, a, rfl, hp1, ⟨kt2, ea2, hk2, hh2⟩⟩ := Paired.snoc L.lla
    refine iteF ⟨_, rfl, p, _, _, _, _, rfl, L.ins, T.clL, T.nL4, rfl, .inl ⟨rfl, _, SqL.of L.els⟩, _, rfl, p, _, _, _, _, rfl, L.ins, T.clL, T.nL1, rfl, _, rfl, p, _, _, _, _, rfl, L.ins, T.clL, T.nL2, rfl, _, rfl, p, _, _, _, _, rfl, L.ins, T.clL, T.nL3, rfl, (by show 3 ≤ sizeLine; decide), fun q hq => ?_⟩
    have s1 : Same H (upd H q (.tup [.ref bt, .ref rt, .ref kt])) := Same.new hq
    have eq1 : (upd H q (.tup [.ref bt, .ref rt, .ref kt])) q = some (.tup [.ref bt, .ref rt, .ref kt]) := upd_same
    refine ⟨e2, _, _, rfl, rfl, s1 _ _ L.els, by rw [List.length_map, Paired.len' L.ela]; exact small_lt (by omega), ?_⟩
    have f2 : Fr [p, e2, l2] H (upd (upd H q (.tup [.ref bt, .ref rt, .ref kt])) e2 (.lst (ea.map V.ref ++ [.ref q]))) := Fr.chg (Same.fr _ s1) (.inr (by simp))
    have ei2 : (upd (upd H q (.tup [.ref bt, .ref rt, .ref kt])) e2 (.lst (ea.map V.ref ++ [.ref q]))) p = some (.ins c.CL dx (liveF bt rt kt e2 l2)) := by rw [upd_ne hne]; exact s1 _ _ L.ins
    have ela2 : (upd (upd H q (.tup [.ref bt, .ref rt, .ref kt])) e2 (.lst (ea.map V.ref ++ [.ref q]))) e2 = some (.lst ((ea ++ [q]).map V.ref)) := by rw [upd_same, List.map_append]; rfl
    have eq2 : (upd (upd H q (.tup [.ref bt, .ref rt, .ref kt])) e2 (.lst (ea.map V.ref ++ [.ref q]))) q = some (.tup [.ref bt, .ref rt, .ref kt]) := by
      rw [upd_ne (ne_of eq1 (s1 _ _ L.els) (by intro z; cases z))]; exact eq1
    have eel2 : (upd (upd H q (.tup [.ref bt, .ref rt, .ref kt])) e2 (.lst (ea.map V.ref ++ [.ref q]))) l2 = some (.lst ((xa ++ [a]).map V.ref)) := by
      rw [upd_ne (Ne.symm L.ne)]; exact s1 _ _ L.lls
    generalize upd (upd H q (.tup [.ref bt, .ref rt, .ref kt])) e2 (.lst (ea.map V.ref ++ [.ref q])) = H2 at f2 ei2 ela2 eq2 eel2 ⊢
    have K2 : Kt c H H2 := f2.kt (L.nst T.neBL)
    refine ⟨_, rfl, p, _, _, _, _, rfl, ei2, T.clL, T.nL5, rfl, .inl ⟨rfl, _, SqL.of eel2⟩, l2, _, .ref a, rfl, rfl, eel2, ?_, ?_⟩
    · rw [List.length_map, List.length_append, List.length_singleton, List.getElem?_map, Nat.add_sub_cancel, List.getElem?_append_right (Nat.le_refl _), Nat.sub_self]; rfl
    rw [List.map_append, show ([a].map V.ref) = [V.ref a] from rfl, List.dropLast_concat]
    have f3 : Fr [p, e2, l2] H (upd H2 l2 (.lst (xa.map V.ref))) := Fr.chg f2 (.inr (by simp))
    have ei3 : (upd H2 l2 (.lst (xa.map V.ref))) p = some (.ins c.CL dx (liveF bt rt kt e2 l2)) := by rw [upd_ne hnl]; exact ei2
    have ela3 : (upd H2 l2 (.lst (xa.map V.ref))) e2 = some (.lst ((ea ++ [q]).map V.ref)) := by rw [upd_ne (Ne.symm (Ne.symm L.ne))]; exact ela2
    have eel3 : (upd H2 l2 (.lst (xa.map V.ref))) l2 = some (.lst (xa.map V.ref)) := upd_same
    have eq3 : (upd H2 l2 (.lst (xa.map V.ref))) q = some (.tup [.ref bt, .ref rt, .ref kt]) := by
      rw [upd_ne (ne_of eq2 eel2 (by intro z; cases z))]; exact eq2
    generalize upd H2 l2 (.lst (xa.map V.ref)) = H3 at f3 ei3 ela3 eel3 eq3 ⊢
    have K3 : Kt c H H3 := f3.kt (L.nst T.neBL)
    refine ⟨a, _, rfl, SqT.of (K3.tup ea2), rfl, _, _, rfl, _, rfl, p, _, _, _, rfl, ei3, T.clL, T.nL1, live_len _ _ _ _ _, _, _, rfl, _, rfl, p, _, _, _, rfl, upd_same, T.clL, T.nL2, put_len1 _ _ _ _ _ _, _, _, rfl, _, rfl, p, _, _, _, rfl, upd_same, T.clL, T.nL3, put_len3 _ _ _ _ _ _ _, rfl, ?_⟩
    rw [put_kept3, upd_upd, upd_upd]
    have f4 : Fr [p, e2, l2] H (upd H3 p (.ins c.CL dx (liveF bt rt kt2 e2 l2))) := Fr.chg f3 (.inr (by simp))
    have K4 : Kt c H (upd H3 p (.ins c.CL dx (liveF bt rt kt2 e2 l2))) := f4.kt (L.nst T.neBL)
    have eq4 : (upd H3 p (.ins c.CL dx (liveF bt rt kt2 e2 l2))) q = some (.tup [.ref bt, .ref rt, .ref kt]) := by
      rw [upd_ne (ne_of eq3 ei3 (by intro z; cases z))]; exact eq3
    have ela4 : (upd H3 p (.ins c.CL dx (liveF bt rt kt2 e2 l2))) e2 = some (.lst ((ea ++ [q]).map V.ref)) := by
      rw [upd_ne (Ne.symm hne)]; exact ela3
    have eel4 : (upd H3 p (.ins c.CL dx (liveF bt rt kt2 e2 l2))) l2 = some (.lst (xa.map V.ref)) := by
      rw [upd_ne (Ne.symm hnl)]; exact eel3
    have hl1 := L.ll'
    rw [List.length_append, List.length_singleton] at hl1
    refine kT e t rfl _ [p, e2, l2] f4 (fun b m => .inl m) rfl ⟨p, dx, bt, rt, kt2, e2, l2, as, (ea ++ [q]), xa, rfl, ?_⟩
    exact ⟨upd_same, K4.tup L.books, K4.bks L.bks, K4.lotT L.roads, K4.lotT hk2, hh2, ela4, eel4, L.ne, Paired.app (K4.sts L.ela) ⟨kt, eq4, K4.lotT L.kept, L.heard⟩, K4.sts hp1, by rw [List.length_append, List.length_singleton]; omega, by omega⟩
end
end Ws
end
section
set_option Elab.async false
set_option linter.all false
set_option maxRecDepth 100000
set_option maxHeartbeats 4000000
namespace Ws
open PySem PySem.Spec PyProof.Rows L2
set_option autoImplicit false
/-! K43: _law_wrong. -/
theorem lc_genE {J : It} {G : TG} {L : List Nat} {H1 : Hp} {D : Addr} {σ : L2.St} {tt : TT} {te : TE} {Qd : Hp → Prop} (n : Nat) (Rl : Nat → V → Hp → Prop) (R : Nat → V → Hp → Prop) (hR : Stb R) (hD : H1 D = none) (hlen : n ≤ 1000)
    (hgo : ∀ (j : Nat) H, j < n → Same H1 H → J.go j H ∧ ∀ v H', J.yld j H v H' → Same H H' ∧ Rl j v H') (hstop : ∀ H, Same H1 H → J.stop n H)
    (hstep : ∀ j < n, ∀ v H', Same H1 H' → Rl j v H' → ∀ Q : L2.St → Hp → Prop, (∀ σ', wipe σ' L = wipe σ L → (∀ Rb : Bool → Hp → Prop, (∀ H'', Same H' H'' → Rb true H'') → tt σ' H' Rb) →
      (∀ H'', Same H' H'' → ∀ Rq : VK, (∀ y H3, Same H'' H3 → R j y H3 → Rq y H3) → te σ' H'' Rq) → Q σ' H') → G v (wipe σ L) H' Q)
    (hd : ∀ ys H', Same H1 H' → H' D = some (.lst ys) → Paired (fun x y => R x y H') (List.range n) ys → Qd H') :
    ∃ W : Nat → Nat → Hp → Prop, (∃ m, W 0 m (upd H1 D (.lst []))) ∧ ∀ i' m H, W i' m H →
      (J.stop i' H ∧ Qd H) ∨ (J.go i' H ∧ ∃ Nx : Hp → Prop, (∀ H', Nx H' → ∃ m', m' < m ∧ W (i' + 1) m' H') ∧ ∀ x H', J.yld i' H x H' → G x (wipe σ L) H' fun σ2 H2 => wipe σ2 L = wipe σ L ∧ tt σ2 H2 fun b H3 =>
        if b = true then te σ2 H3 fun y H4 => ∃ acc, H4 D = some (.lst acc) ∧ acc.length < sizeLine ∧ Nx (upd H4 D (.lst (acc ++ [y]))) else Nx H3) := by
  let Pv : Nat → Hp → Prop := fun j H => Same H1 H ∧ ∃ ys, H D = some (.lst ys) ∧ Paired (fun x y => R x y H) (List.range j) ys
  refine ⟨fun j m H => m = n - j ∧ j ≤ n ∧ Pv j H, ⟨n, by simp, Nat.zero_le _, Same.chg (Same.refl _) hD, [], upd_same, .nil⟩, ?_⟩
  rintro j m H ⟨rfl, hj, s, ys, hDy, pp⟩
  by_cases hlt : j < n
  · obtain ⟨g1, g2⟩ := hgo j H hlt s
    refine .inr ⟨g1, Pv (j + 1), fun H' p' => ⟨n - (j + 1), by omega, rfl, hlt, p'⟩, fun v H' y => ?_⟩
    obtain ⟨sy, rl⟩ := g2 v H' y
    refine hstep j hlt v H' (s.trans sy) rl _ fun σ' hσ ht he => ⟨hσ, ?_⟩
    refine ht _ fun H2 s2 => ?_
    have S2 := sy.trans s2
    refine iteT (he H2 s2 _ fun y H3 s3 r => ⟨ys, s3 _ _ (S2 _ _ hDy), ?_, ?_⟩)
    · have l1 := Paired.len' pp
      rw [List.length_range] at l1
      exact small_lt (by omega)
    · have s4 : Same H1 H3 := (s.trans S2).trans s3
      refine ⟨Same.chg s4 hD, ys ++ [y], upd_same, ?_⟩
      have st : ∀ t zs, H3 t = some (.tup zs) → (upd H3 D (.lst (ys ++ [y]))) t = some (.tup zs) := fun t zs e => by
        rw [upd_ne (ne_of e (s3 _ _ (S2 _ _ hDy)) (by intro q; cases q))]
        exact e
      rw [List.range_succ]
      refine Paired.app ?_ (hR _ _ _ _ st r)
      exact Paired.map' (hR.same (S2.trans s3) pp) fun a y' r' => hR _ _ _ _ st r'
  · have e : j = n := by omega
    subst e
    exact .inl ⟨hstop H s, hd ys H s hDy pp⟩
theorem keptL_range (s : Hs) : ∀ (ss : List (List Int)) (h : Nat), (List.range ss.length).map (fun i => s.kept (h + i) (ss[i]?.getD [])) = keptFrom s h ss
  | [], _ => rfl
  | t :: r, h => by
    rw [List.length_cons, List.range_succ_eq_map, List.map_cons, List.map_map]
    show s.kept (h + 0) t :: _ = s.kept h t :: keptFrom s (h + 1) r
    rw [← keptL_range s r (h + 1)]
    refine congrArg _ (List.map_congr_left fun i _ => ?_)
    show s.kept (h + (i + 1)) (r[i]?.getD []) = _
    rw [show h + (i + 1) = h + 1 + i by omega]
section
variable {P : Program} {w : World} {K : PySem.W.Frag} {mg : Str → Option Value} {base : Heap} {c : Cs} {f1 f2 f3 f4 : Addr} {t9 t6 : Tok}
theorem ok__law_wrong (T : Txt P K mg c.CB c.CL c.C1 c.C2 c.C3 c.C4 f1 f2 f3 f4 t9 t6) (d_Live_list_of : Dm P w K mg base (L2.CX P w) 5 c.CL "list_of" ["self", "hand"] ["hand"] (sp_Live_list_of c)) (d__law_kept : Dn P w K mg base CX0 3 "_law_kept" ["_law_house_here", "_law_roads", "_law_hand", "_law_heard"] (sp__law_kept c)) (d__law_list : Dn P w K mg base CX0 2 "_law_list" ["_law_table_here", "_law_places", "_law_lot"] (sp__law_list c)) {f : Addr} {fd : FuncData} (F : Fun K "_law_wrong" "_law_wrong" s__law_wrong f fd) : FnOk P w K mg base CX0 6 f fd ["_law_live", "_law_house_here", "_law_roads", "_law_heard"] (sp__law_wrong c) := by
  refine F.ok sc__law_wrong (fun vs H Q E h => ?_) (fun cdv A outer s H vs Q E hr h => ?_)
  · obtain ⟨p, hl, t, he, s0, O, ss, el, la, rfl, hO, hL, hok, hh, ht, hhe, k⟩ := h
    rfl
  · obtain ⟨p, hl, t, he, s0, O, ss, el, la, rfl, hO, hL, hok, hh, ht, hhe, k⟩ := h
    refine ⟨_, (pss_cons (ps_setLc (i := 6) (own := [("_law_hand", 4), ("_law_lot", 5)]) (g := (gTup K 2 (gCons (gName 4) (gCons (gName 5) gNil)))) (tt := tYes) rfl sc__law_wrong.nd rfl rfl (sw_true rfl rfl rfl (by decide +kernel)) (pi_enum (by rfl) T.g_enumerate (pa_cons (pv 3) pa_nil)) (blkOk_by (N := ["_law_live", "_law_house_here", "_law_roads", "_law_heard", "_law_hand", "_law_lot", "_law_due"]) (sc := defScope s__law_wrong) (by decide +kernel)) (fun _ _ _ _ _ => (pg_tupK (K := K) rfl rfl (pgs_cons (pg_name (i := 4) sc__law_wrong.nd rfl (Or.inl rfl)) (pgs_cons (pg_name (i := 5) sc__law_wrong.nd rfl (Or.inl rfl)) pgs_nil)))) (fun _ _ _ _ _ => pts_nil) (fun _ _ _ _ _ => (pe_dn d__law_kept (hr.mono (by decide)) pA0 (pa_cons (pv 1) (pa_cons (pv 2) (pa_cons (pv 4) (pa_cons (pv 5) pa_nil)))))))
    (pss_cons (ps_if (PW.pt (pw_or (pt_cmpR (op_neD hr.units) (pe_fldK (K := K) rfl (pv 0)) (pe_callTy (call_tupleA (K := K) rfl) (by rfl) T.g_tuple (by decide +kernel) (pa_cons (pv 6) pa_nil)) (nomark _)) (pw_or1 (pt_not (pt_val (pe_callB call_isi (by rfl) T.g_isinstance (by decide +kernel) (pa_cons (pe_fldK (K := K) rfl (pv 0)) (pa_cons (pe_bltn (v := .ty "tuple") (by rfl) T.g_tuple (by decide +kernel) rfl) pa_nil))))))))
    (pss_one (ps_ret pe_bl))
    pss_nil)
    (pss_cons (ps_for PassesOwn.never rfl (pi_enum (by rfl) T.g_enumerate (pa_cons (pv 3) pa_nil)) (pg_tupK (K := K) rfl rfl (pgs_cons (pg_name (i := 4) sc__law_wrong.nd rfl (Or.inl rfl)) (pgs_cons (pg_name (i := 5) sc__law_wrong.nd rfl (Or.inl rfl)) pgs_nil)))
    (pss_one (ps_if (pt_cmpR (op_neD hr.units) (pe_dmK d_Live_list_of (pv 0) T.clL (hr.mono (by decide)) (pk_cons (pv 4) pk_nil)) (pe_dn d__law_list (hr.mono (by decide)) pA0 (pa_cons (pe_ix (ix_A (K := K) rfl) (pe_ix (ix_A (K := K) rfl) (pv 1) (pv 4) (fun _ _ => rfl)) pe_int (fun _ _ => rfl)) (pa_cons (pe_ix (ix_A (K := K) rfl) (pe_ix (ix_A (K := K) rfl) (pv 1) (pv 4) (fun _ _ => rfl)) pe_int (fun _ _ => rfl)) (pa_cons (pv 5) pa_nil)))) (nomark _))
    (pss_one (ps_ret pe_bl))
    pss_nil)))
    (pss_one (ps_ret pe_bl))))), ?_⟩
    obtain ⟨dx, bt, rt, kt, e2, l2, as, ea, lla, _, L⟩ := hL.at hO
    obtain ⟨hs, hes, hel⟩ := hhe
    have hsl := Paired.len' hel
    have hnn : s0.n = (s0.bs.length : Int) := rfl
    have hn4 := hok.rds.1
    have hss := L.heard.len
    refine ⟨_, rfl, he, _, rfl, SqL.of hes, fun D hD => lc_genE ss.length (fun j v H' => ∃ b la x, v = .ref b ∧ H' b = some (.tup [.int (j : Nat), .ref la]) ∧ ss[j]? = some x ∧ TupI H la x) (IsLotR fun i => s0.kept (0 + i) (ss[i]?.getD [])) (stb_lot _) hD (by omega) ?_ ?_ ?_ fun ys H1 s1 hys pp => ?_⟩
    · intro j H' hj s'
      have hes' : H' he = some (.lst (hs.map V.ref)) := s' _ _ hes
      obtain ⟨x, hx⟩ : ∃ x, ss[j]? = some x := ⟨ss[j], by simp [hj]⟩
      obtain ⟨la, hla, hlx⟩ := Paired.at2 hel hx
      refine ⟨⟨_, _, SqL.of hes', map_at hla⟩, fun v H2 y => ?_⟩
      obtain ⟨b, x', rfl, hb, rfl, hy⟩ := y
      have e := hy _ (SqL.of hes')
      rw [map_at hla] at e
      cases e
      exact ⟨Same.new hb, b, la, x, rfl, upd_same, hx, hlx⟩
    · intro H' s'
      exact ⟨_, SqL.of (s' _ _ hes), by rw [List.length_map, hsl]; exact Nat.le_refl _⟩
    · rintro j hj v H' s' ⟨b, la, x, rfl, hb, hx, hlx⟩ Q' kQ
      refine ⟨b, _, rfl, SqT.of hb, rfl, _, _, rfl, _, _, rfl, rfl, kQ _ rfl (fun Rb kb => kb _ (Same.refl _)) fun H2 s2 Rq kq => ?_⟩
      have S2 := s'.trans s2
      have hxl := L.heard.ok x (List.mem_of_getElem? hx)
      refine ⟨_, rfl, _, rfl, _, rfl, _, rfl, hl, t, la, s0, j, x, rfl, hh.same S2, ht.same S2, hok, by omega, S2 _ _ hlx, hxl, ?_, fun r H3 s3 hr3 => kq _ H3 s3 ⟨r, rfl, ?_⟩⟩
      · have := lot_len hxl hok.m0
        have := hok.m6
        omega
      · show TupI H3 r (s0.kept (0 + j) (ss[j]?.getD []))
        rw [hx, Nat.zero_add]; exact hr3
    obtain ⟨bs, rfl, hbs⟩ := paired_lot pp
    rw [keptL_range s0 ss 0] at hbs
    have L1 := L.same s1
    refine ⟨_, rfl, p, _, _, _, _, rfl, L1.ins, T.clL, T.nL3, rfl, ?_⟩
    refine ⟨_, rfl, D, _, rfl, .inl ⟨SqL.of hys, fun due hdue => ?_⟩⟩
    have s2 : Same H1 (upd H1 due (.tup (bs.map V.ref))) := Same.new hdue
    have L2' := L1.same s2
    have hdl : LotT (upd H1 due (.tup (bs.map V.ref))) due (s0.keptL ss) := ⟨bs, upd_same, hbs.same s2⟩
    have S2 := s1.trans s2
    generalize upd H1 due (.tup (bs.map V.ref)) = H2 at s2 L2' hdl S2 ⊢
    refine ⟨.tuple (lotsD (s0.keptL ss)), .tuple (lotsD (s0.keptL ss)), dp_lotT L2'.kept, dp_lotT hdl, sh_lotT _, sh_lotT _, _, rfl, ?_⟩
    rw [eqv_self _ (sh_lotT _)]
    obtain ⟨ks, hkt, hks⟩ := L2'.kept
    refine iteF ⟨_, rfl, p, _, _, _, _, rfl, L2'.ins, T.clL, T.nL3, rfl, _, _, _, _, _, rfl, .ty _, .base (.tup hkt), kit_ty (by decide +kernel : kitB "tuple" "tuple" = some true), _, rfl, ?_⟩
    refine iteF ⟨_, rfl, he, _, rfl, SqL.of (S2 _ _ hes), for_en (K := K) (H0 := H2) (.inl ⟨rfl, S2 _ _ hes⟩) (fun i σ H' => ∃ v4 v5 : Option V, σ = [some (.ref p), some (.ref hl), some (.ref t), some (.ref he), v4, v5, some (.ref D)] ∧ Same H2 H')
      ⟨none, none, rfl, Same.refl _⟩ (fun i σ H' ⟨_, _, _, s'⟩ => s' he) ?_ ?_⟩
    · rintro j v σ H3 b hv ⟨v4, v5, rfl, s3⟩ hb
      rw [List.getElem?_map] at hv
      obtain ⟨la, hla, rfl⟩ := Option.map_eq_some_iff.mp hv
      obtain ⟨x, hx, hlx⟩ := Paired.at hel hla
      have hxl := L.heard.ok x (List.mem_of_getElem? hx)
      have hj := (List.getElem?_eq_some_iff.mp hx).1
      have s4 : Same H3 (upd H3 b (.tup [.int (j : Nat), .ref la])) := Same.new hb
      have eb4 : (upd H3 b (.tup [.int (j : Nat), .ref la])) b = some (.tup [.int (j : Nat), .ref la]) := upd_same
      have S4 : Same H (upd H3 b (.tup [.int (j : Nat), .ref la])) := Same.trans (S2.trans s3) s4
      have S24 : Same H2 (upd H3 b (.tup [.int (j : Nat), .ref la])) := Same.trans s3 s4
      generalize upd H3 b (.tup [.int (j : Nat), .ref la]) = H4 at s4 eb4 S4 S24 ⊢
      refine ⟨b, _, rfl, SqT.of eb4, rfl, _, _, rfl, _, _, rfl, rfl, ?_⟩
      refine ⟨_, rfl, p, _, _, rfl, S4 _ _ L.ins, rfl, _, rfl, rfl, p, s0, O, ss, el, _, .int (j : Int), rfl, hO, hL.same S4, hok, trivial, ?_, ?_⟩
      · intro z
        rw [show isB s0.n (.int (j : Int)) = true from by simp only [isB, Bool.and_eq_true, decide_eq_true_eq]; omega] at z
        cases z
      · intro h' t' e1 e2' a5 H5 s5 ha5
        have ej : j = h' := by injection e1 with e1; omega
        subst ej
        rw [hx] at e2'
        cases e2'
        have S5 := S4.trans s5
        obtain ⟨ts, et, q, hts, hte, hq, d, hed, htab⟩ := (hh.same S5).at (show j < s0.bs.length by omega)
        have hbk : bk s0.bs (j : Int) = q := bk_of hq
        have hqm := List.mem_of_getElem? hq
        have G := hok.bks.good q hqm
        have hk3 := hok.k3 q hqm
        refine ⟨_, rfl, _, rfl, hl, _, _, _, rfl, rfl, .inl (SqL.of hts), atI_nat (map_at hte), et, _, _, _, rfl, rfl, .inr (SqT.of hed), atI1 rfl, ?_⟩
        refine ⟨_, rfl, _, rfl, hl, _, _, _, rfl, rfl, .inl (SqL.of hts), atI_nat (map_at hte), et, _, _, _, rfl, rfl, .inr (SqT.of hed), atI0 rfl, ?_⟩
        refine ⟨_, rfl, d, la, s0.m, q.1, q.2, x, rfl, htab, G, by omega, S5 _ _ hlx, hxl, fun r H6 s6 hr6 => ?_⟩
        have elst : lstOf s0.bs (j : Int) x = lst q.2 q.1 x := by unfold lstOf; rw [hbk]
        rw [elst] at ha5
        refine ⟨lotD (lst q.2 q.1 x), lotD (lst q.2 q.1 x), dp_lot (s6 _ _ ha5), dp_lot hr6, sh_lot _, sh_lot _, _, rfl, ?_⟩
        rw [eqv_self _ (sh_lot _)]
        exact iteF ⟨_, _, rfl, (S24.trans s5).trans s6⟩
    · rintro σ H3 ⟨v4, v5, rfl, s3⟩
      exact k H3 (S2.trans s3)
end
end Ws
end
section
set_option Elab.async false
set_option linter.all false
set_option maxRecDepth 100000
set_option maxHeartbeats 4000000
namespace Ws
open PySem PySem.Spec PyProof.Rows L2
set_option autoImplicit false
/-! K44: _law_refused. -/
theorem isB_in {s : Hs} {ss : List (List Int)} (hh : HeardOk s ss) {h : Nat} {u : List Int} (hu : ss[h]? = some u) : isB s.n (.int (h : Int)) = true := by
  have h1 := (List.getElem?_eq_some_iff.mp hu).1
  have h2 := hh.len
  have h3 : s.n = (s.bs.length : Int) := rfl
  simp only [isB, Bool.and_eq_true, decide_eq_true_eq]
  omega
section
variable {P : Program} {w : World} {K : PySem.W.Frag} {mg : Str → Option Value} {base : Heap} {c : Cs} {f1 f2 f3 f4 : Addr} {t9 t6 : Tok}
theorem ok__law_refused (T : Txt P K mg c.CB c.CL c.C1 c.C2 c.C3 c.C4 f1 f2 f3 f4 t9 t6) (d_Live_come : Dm P w K mg base (L2.CX P w) 6 c.CL "come" ["self", "hand", "thing"] ["hand", "thing"] (sp_Live_come c)) (d_Live_list_of : Dm P w K mg base (L2.CX P w) 5 c.CL "list_of" ["self", "hand"] ["hand"] (sp_Live_list_of c)) (d_Live_send : Dm P w K mg base (L2.CX P w) 6 c.CL "send" ["self", "hand", "to"] ["hand", "to"] (sp_Live_send c)) {f : Addr} {fd : FuncData} (F : Fun K "_law_refused" "_law_refused" s__law_refused f fd) : FnOk P w K mg base CX0 7 f fd ["_law_live", "_law_word", "_law_values"] (sp__law_refused c) := by
  refine F.ok sc__law_refused (fun vs H Q E h => ?_) (fun cdv A outer s H vs Q E hr h => ?_)
  · obtain ⟨p, a, w0, want, xs, s0, O, ss, el, la, rfl, hO, hL, hok, hel, ha, hc, k⟩ := h
    rfl
  · obtain ⟨p, a, w0, want, xs, s0, O, ss, el, la, rfl, hO, hL, hok, hel, ha, hc, k⟩ := h
    refine ⟨_, (pss_cons (ps_try_manyAs (i := 3) rfl rfl sc__law_refused.nd rfl rfl takes0 (fun W pn xe tk _ => (pss_one (ps_if (pt_cmpR op_eq (pv 1) pe_str (nomark _))
    (pss_one (ps_expr (pe_dm d_Live_come (pv 0) T.clL (hr.mono (by decide)) (fun σ => passAt tk σ) (pa_cons (pe_ix (ix_A (K := K) rfl) (pv 2) pe_int (fun _ _ => rfl)) (pa_cons (pe_ix (ix_A (K := K) rfl) (pv 2) pe_int (fun _ _ => rfl)) pa_nil)))))
    (pss_one (ps_if (pt_cmpR op_eq (pv 1) pe_str (nomark _))
    (pss_one (ps_expr (pe_dm d_Live_send (pv 0) T.clL (hr.mono (by decide)) (fun σ => passAt tk σ) (pa_cons (pe_ix (ix_A (K := K) rfl) (pv 2) pe_int (fun _ _ => rfl)) (pa_cons (pe_ix (ix_A (K := K) rfl) (pv 2) pe_int (fun _ _ => rfl)) pa_nil)))))
    (pss_one (ps_expr (pe_dm d_Live_list_of (pv 0) T.clL (hr.mono (by decide)) (fun σ => passAt tk σ) (pa_cons (pe_ix (ix_A (K := K) rfl) (pv 2) pe_int (fun _ _ => rfl)) pa_nil))))))))) (.cons ⟨rfl, by decide, .inl T.x_Refused.gC⟩ (fun a oe cls d pn hz hf => (pss_one (ps_ret (pe_xf T.xf_Refused T.x_Refused.noN hz hf (pv 3))))) .nil))
    (pss_one (ps_ret pe_str))), ?_⟩
    obtain ⟨dx, bt, rt, kt, e2, l2, as, ea, lla, _, L⟩ := hL.at hO
    rcases hc with ⟨x, y, rfl, rfl, hx, hy, hc⟩ | ⟨x, y, rfl, rfl, hx, hy, hc⟩ | ⟨x, rfl, rfl, hx, z1, rfl⟩
    · refine ⟨_, rfl, rfl, _, rfl, ?_⟩
      rw [decide_eq_true rfl]
      refine iteT ⟨_, rfl, p, _, _, rfl, L.ins, rfl, _, rfl, a, _, _, _, rfl, rfl, .inr (SqT.of ha), atI0 rfl, _, rfl, a, _, _, _, rfl, rfl, .inr (SqT.of ha), atI1 rfl, p, s0, O, ss, el, la, x, y, rfl, hO, hL, hok, hel, hx, hy, ?_⟩
      rcases hc with ⟨z1, rfl⟩ | ⟨z1, z2, rfl⟩
      · refine ⟨fun _ H' d s' hd e => ⟨true, T.e44, fun _ a' ha' => ⟨_, rfl, rfl, rfl, d, _, _, rfl, e, rfl, k H' s'⟩, fun z => nomatch z⟩, fun z => ?_, fun h v u e1 _ hu => ?_⟩
        · rw [z1] at z; cases z
        · rw [e1, isB_in L.heard hu] at z1; cases z1
      · refine ⟨fun z => ?_, fun _ _ H' d s' hd e => ⟨true, T.e44, fun _ a' ha' => ⟨_, rfl, rfl, rfl, d, _, _, rfl, e, rfl, k H' s'⟩, fun z => nomatch z⟩, fun h v u _ e2 hu h0 h1 => ?_⟩
        · rw [z1] at z; cases z
        · rw [e2] at z2
          have : isB s0.m (.int v) = true := by simp only [isB, Bool.and_eq_true, decide_eq_true_eq]; exact ⟨h0, h1⟩
          rw [this] at z2; cases z2
    · refine ⟨_, rfl, rfl, _, rfl, ?_⟩
      rw [decide_eq_false (by intro z; injection z with z; revert z; decide)]
      refine iteF ⟨_, rfl, rfl, _, rfl, ?_⟩
      rw [decide_eq_true rfl]
      refine iteT ⟨_, rfl, p, _, _, rfl, L.ins, rfl, _, rfl, a, _, _, _, rfl, rfl, .inr (SqT.of ha), atI0 rfl, _, rfl, a, _, _, _, rfl, rfl, .inr (SqT.of ha), atI1 rfl, p, s0, O, ss, el, la, x, y, rfl, hO, hL, hok, hel, hx, hy, ?_⟩
      rcases hc with ⟨z1, rfl⟩ | ⟨z1, z2, rfl⟩ | ⟨i, j, rfl, rfl, h1, h2, h3, h4, h5, rfl⟩
      · refine ⟨fun _ H' d s' hd e => ⟨true, T.e44, fun _ a' ha' => ⟨_, rfl, rfl, rfl, d, _, _, rfl, e, rfl, k H' s'⟩, fun z => nomatch z⟩, fun z => ?_, fun i j e1 e2 i0 i1 => ?_, fun i j u u2 e1 _ hu => ?_⟩
        · rw [z1] at z; cases z
        · have : isB s0.n (.int i) = true := by simp only [isB, Bool.and_eq_true, decide_eq_true_eq]; exact ⟨i0, i1⟩
          rw [e1, this] at z1; cases z1
        · rw [e1, isB_in L.heard hu] at z1; cases z1
      · refine ⟨fun z => ?_, fun _ _ H' d s' hd e => ⟨true, T.e44, fun _ a' ha' => ⟨_, rfl, rfl, rfl, d, _, _, rfl, e, rfl, k H' s'⟩, fun z => nomatch z⟩, fun i j _ e2 _ _ j0 j1 => ?_, fun i j u u2 _ e2 _ hu => ?_⟩
        · rw [z1] at z; cases z
        · have : isB s0.n (.int j) = true := by simp only [isB, Bool.and_eq_true, decide_eq_true_eq]; exact ⟨j0, j1⟩
          rw [e2, this] at z2; cases z2
        · rw [e2, isB_in L.heard hu] at z2; cases z2
      · have b1 : isB s0.n (.int i) = true := by simp only [isB, Bool.and_eq_true, decide_eq_true_eq]; exact ⟨h1, h2⟩
        have b2 : isB s0.n (.int j) = true := by simp only [isB, Bool.and_eq_true, decide_eq_true_eq]; exact ⟨h3, h4⟩
        refine ⟨fun z => ?_, fun _ z => ?_, fun i' j' _ _ _ _ _ _ _ H' d s' hd e => ⟨true, T.e44, fun _ a' ha' => ⟨_, rfl, rfl, rfl, d, _, _, rfl, e, rfl, k H' s'⟩, fun z => nomatch z⟩, fun i' j' u u2 e1 e2 _ _ hr' => ?_⟩
        · rw [b1] at z; cases z
        · rw [b2] at z; cases z
        · injection e1 with e1
          injection e2 with e2
          rw [← e1, ← e2] at hr'
          exact absurd hr' h5
    · refine ⟨_, rfl, rfl, _, rfl, ?_⟩
      rw [decide_eq_false (by intro z; injection z with z; revert z; decide)]
      refine iteF ⟨_, rfl, rfl, _, rfl, ?_⟩
      rw [decide_eq_false (by intro z; injection z with z; revert z; decide)]
      refine iteF ⟨_, rfl, p, _, _, rfl, L.ins, rfl, _, rfl, a, _, _, _, rfl, rfl, .inr (SqT.of ha), atI0 rfl, p, s0, O, ss, el, la, x, rfl, hO, hL, hok, hx, fun _ H' d s' hd e => ⟨true, T.e44, fun _ a' ha' => ⟨_, rfl, rfl, rfl, d, _, _, rfl, e, rfl, k H' s'⟩, fun z => nomatch z⟩, fun h t e1 ht => ?_⟩
      rw [e1, isB_in L.heard ht] at z1; cases z1
end
end Ws
end
section
set_option Elab.async false
set_option linter.all false
set_option maxRecDepth 100000
set_option maxHeartbeats 4000000
namespace Ws
open PySem PySem.Spec PyProof.Rows L2
set_option autoImplicit false
/-! K45: _law_bad. -/
/-- flat, and stays so -/
def KdS (H : Hp) (x : V) : Prop := (∀ H', Kd H' x) ∨ ∃ q xs, x = .ref q ∧ H q = some (.tup xs)
theorem KdS.kd {H : Hp} {x : V} (h : KdS H x) : Kd H x := by
  rcases h with h | ⟨q, xs, rfl, h⟩
  · exact h H
  · exact ⟨xs, .inr h⟩
theorem KdS.same {H H' : Hp} {x : V} (h : KdS H x) (s : Same H H') : KdS H' x := h.imp id fun ⟨q, xs, e, h⟩ => ⟨q, xs, e, s _ _ h⟩
theorem KdS.fr {H H' : Hp} {d l : Addr} {x : V} (h : KdS H x) (hd : DealAt H [d, l]) (s : Fr [d, l] H H') : KdS H' x := h.imp id fun ⟨q, xs, e, h⟩ => ⟨q, xs, e, s.tup hd h⟩
/-- not below n -/
def Odd (H : Hp) (n : Int) (x : V) : Prop := KdS H x ∧ isB n x = false
theorem isB_off {n i : Int} (h : i < 0 ∨ n ≤ i) : isB n (.int i) = false := by
  cases e : isB n (.int i) with
  | false => rfl
  | true =>
    simp only [isB, Bool.and_eq_true, decide_eq_true_eq] at e
    omega
theorem isB_on {n i : Int} (h0 : 0 ≤ i) (h1 : i < n) : isB n (.int i) = true := by
  simp only [isB, Bool.and_eq_true, decide_eq_true_eq]; omega
theorem odd_int {H : Hp} {n i : Int} (h : i < 0 ∨ n ≤ i) : Odd H n (.int i) := ⟨.inl fun _ => trivial, isB_off h⟩
section
variable {P : Program} {w : World} {K : PySem.W.Frag} {mg : Str → Option Value} {base : Heap} {c : Cs} {f1 f2 f3 f4 : Addr} {t9 t6 : Tok}
theorem ok__law_bad (T : Txt P K mg c.CB c.CL c.C1 c.C2 c.C3 c.C4 f1 f2 f3 f4 t9 t6) (d__law_any : Dn P w K mg base CX0 1 "_law_any" ["_law_deal", "_law_bound"] (sp__law_any c)) (d__law_of : Dn P w K mg base CX0 2 "_law_of" ["_law_deal", "_law_some"] (sp__law_of c)) {f : Addr} {fd : FuncData} (F : Fun K "_law_bad" "_law_bad" s__law_bad f fd) : FnOk P w K mg base CX0 3 f fd ["_law_deal", "_law_many", "_law_hands", "_law_roads"] (sp__law_bad c) := by
  refine F.ok sc__law_bad (fun vs H Q E h => ?_) (fun cdv A outer s H vs Q E hr h => ?_)
  · obtain ⟨d, l, t, s0, rfl, hD, ht, hok, nt, k⟩ := h
    rfl
  · obtain ⟨d, l, t, s0, rfl, hD, ht, hok, nt, k⟩ := h
    refine ⟨_, (pss_cons (ps_set (i := 4) sc__law_bad.nd rfl (Or.inl rfl) (pe_dn d__law_of (hr.mono (by decide)) pA0 (pa_cons (pv 0) (pa_cons (pe_lst (pa_cons (pe_un un_neg pe_int) (pa_cons (pv 2) (pa_cons pe_non (pa_cons pe_bl (pa_cons pe_str (pa_cons (pe_tup (pa_cons pe_int pa_nil)) (pa_cons (pe_op op_add (pv 2) pe_int) pa_nil)))))))) pa_nil))))
    (pss_cons (ps_set (i := 5) sc__law_bad.nd rfl (Or.inl rfl) (pe_dn d__law_any (hr.mono (by decide)) pA0 (pa_cons (pv 0) (pa_cons pe_int pa_nil))))
    (pss_cons (ps_if (pt_cmpR op_eq (pv 5) pe_int (nomark _))
    (pss_one (ps_ret (pe_tup (pa_cons pe_str (pa_cons (pe_tup (pa_cons (pv 4) (pa_cons (pe_dn d__law_of (hr.mono (by decide)) pA0 (pa_cons (pv 0) (pa_cons (pe_lst (pa_cons pe_int (pa_cons (pv 1) pa_nil))) pa_nil))) pa_nil))) (pa_cons pe_str pa_nil))))))
    pss_nil)
    (pss_cons (ps_if (pt_cmpR op_eq (pv 5) pe_int (nomark _))
    (pss_one (ps_ret (pe_tup (pa_cons pe_str (pa_cons (pe_tup (pa_cons (pe_dn d__law_any (hr.mono (by decide)) pA0 (pa_cons (pv 0) (pa_cons (pv 2) pa_nil))) (pa_cons (pe_dn d__law_of (hr.mono (by decide)) pA0 (pa_cons (pv 0) (pa_cons (pe_lst (pa_cons (pe_un un_neg pe_int) (pa_cons (pv 1) (pa_cons pe_non (pa_cons pe_bl (pa_cons pe_str (pa_cons (pe_tup (pa_cons pe_int pa_nil)) pa_nil))))))) pa_nil))) pa_nil))) (pa_cons pe_str pa_nil))))))
    pss_nil)
    (pss_cons (ps_if (pt_cmpR op_eq (pv 5) pe_int (nomark _))
    (pss_one (ps_ret (pe_tup (pa_cons pe_str (pa_cons (pe_tup (pa_cons (pv 4) (pa_cons (pe_dn d__law_of (hr.mono (by decide)) pA0 (pa_cons (pv 0) (pa_cons (pe_lst (pa_cons pe_int (pa_cons (pv 2) pa_nil))) pa_nil))) pa_nil))) (pa_cons pe_str pa_nil))))))
    pss_nil)
    (pss_cons (ps_if (pt_cmpR op_eq (pv 5) pe_int (nomark _))
    (pss_one (ps_ret (pe_tup (pa_cons pe_str (pa_cons (pe_tup (pa_cons (pe_dn d__law_any (hr.mono (by decide)) pA0 (pa_cons (pv 0) (pa_cons (pv 2) pa_nil))) (pa_cons (pv 4) pa_nil))) (pa_cons pe_str pa_nil))))))
    pss_nil)
    (pss_cons (ps_set (i := 6) sc__law_bad.nd rfl (Or.inl rfl) (pe_lst pa_nil))
    (pss_cons (ps_for PassesOwn.never rfl (pi_range1 rfl T.g_range (pa_cons (pv 2) pa_nil)) (pg_name (i := 7) sc__law_bad.nd rfl (Or.inr rfl))
    (pss_one (ps_set (i := 6) sc__law_bad.nd rfl (Or.inl rfl) (pe_op op_cat (pv 6) (pe_lc (own := [("_law_to", 8)]) (g := (gName 8)) rfl sc__law_bad.nd (pi_range1 rfl T.g_range (pa_cons (pv 2) pa_nil)) (blkOk_by (N := ["_law_deal", "_law_many", "_law_hands", "_law_roads", "_law_odd", "_law_kind", "_law_ends", "_law_hand", "_law_to"]) (sc := defScope s__law_bad) (by decide +kernel)) (fun _ _ _ _ _ => (pg_name (i := 8) sc__law_bad.nd rfl (Or.inl rfl))) (fun _ _ _ _ _ => (pts_one (pt_cmpR (op_notInDK (K := K) rfl (un65 hr)) (pe_tup (pa_cons (pv 7) (pa_cons (pv 8) pa_nil))) (pv 3) (by rfl)))) (fun _ _ _ _ _ => (pe_tup (pa_cons (pv 7) (pa_cons (pv 8) pa_nil)))))))))
    (pss_one (ps_ret (pe_tup (pa_cons pe_str (pa_cons (pe_dn d__law_of (hr.mono (by decide)) pA0 (pa_cons (pv 0) (pa_cons (pv 6) pa_nil))) (pa_cons pe_str pa_nil)))))))))))))), ?_⟩
    have hnn : s0.n = (s0.bs.length : Int) := rfl
    have hn1 := hok.n1
    have hn4 := hok.rds.1
    have hm0 := hok.m0
    have hm6 := hok.m6
    refine ⟨_, rfl, _, rfl, _, rfl, (by show 1 ≤ sizeLine; decide), fun q hq => ⟨_, rfl, _, _, rfl, rfl, (by show 7 ≤ sizeLine; decide), fun o ho => ?_⟩⟩
    have s1 : Same H (upd H q (.tup [.int 0])) := Same.new hq
    have s2 : Same (upd H q (.tup [.int 0])) (upd (upd H q (.tup [.int 0])) o (.lst [.int (-1), .int s0.n, .non, .bl true, .str "0", .ref q, .int (s0.n + 3)])) := Same.new ho
    have eq2 := s2 _ _ (upd_same (H := H) (a := q) (o := .tup [.int 0]))
    have eo2 : (upd (upd H q (.tup [.int 0])) o (.lst [.int (-1), .int s0.n, .non, .bl true, .str "0", .ref q, .int (s0.n + 3)])) o = some (.lst [.int (-1), .int s0.n, .non, .bl true, .str "0", .ref q, .int (s0.n + 3)]) := upd_same
    have no : o ∉ [d, l] := (hD.same s1).free ho
    have S2 : Same H (upd (upd H q (.tup [.int 0])) o (.lst [.int (-1), .int s0.n, .non, .bl true, .str "0", .ref q, .int (s0.n + 3)])) := Same.trans s1 s2
    generalize upd (upd H q (.tup [.int 0])) o (.lst [.int (-1), .int s0.n, .non, .bl true, .str "0", .ref q, .int (s0.n + 3)]) = H2 at s2 eq2 eo2 S2 ⊢
    have hD2 := hD.same S2
    have ht2 := ht.same S2
    refine ⟨d, l, o, _, rfl, hD2, .inl eo2, no, by show 1 ≤ 7; omega, by show 7 ≤ 1000; omega, fun i x H3 hx fr3 hD3 => ?_⟩
    have hodd : Odd H3 s0.n x := by
      have hm := List.mem_of_getElem? hx
      simp only [List.mem_cons, List.not_mem_nil, or_false] at hm
      rcases hm with rfl | rfl | rfl | rfl | rfl | rfl | rfl
      · exact odd_int (.inl (by omega))
      · exact odd_int (.inr (by omega))
      · exact ⟨.inl fun _ => trivial, rfl⟩
      · exact ⟨.inl fun _ => trivial, rfl⟩
      · exact ⟨.inl fun _ => trivial, rfl⟩
      · exact ⟨KdS.fr (.inr ⟨q, _, rfl, eq2⟩) hD2 fr3, rfl⟩
      · exact odd_int (.inr (by omega))
    have FR3 : Fr [d, l] H H3 := Same.thenFr S2 fr3
    have ht3 : LotL H3 t (s0.rs.map pr) := by
      obtain ⟨as, e1, e2⟩ := ht2
      exact ⟨as, fr3 _ _ nt e1, Paired.map' e2 fun a b e => fr3.tup hD2 e⟩
    clear hx
    refine ⟨_, rfl, d, l, 5, rfl, hD3, by omega, by omega, fun kd H4 fr4 hD4 h0 h5 => ?_⟩
    have hodd4 : Odd H4 s0.n x := ⟨hodd.1.fr hD3 fr4, hodd.2⟩
    have FR4 := FR3.trans fr4
    have ht4 : LotL H4 t (s0.rs.map pr) := by
      obtain ⟨as, e1, e2⟩ := ht3
      exact ⟨as, fr4 _ _ nt e1, Paired.map' e2 fun a b e => fr4.tup hD3 e⟩
    clear hodd ht3 ht2 fr4 fr3 FR3 hD3
    have fin : ∀ (H5 : Hp) (w want : Str) (xs : List V), Fr [d, l] H H5 → DealAt H5 [d, l] → (∀ H', Same H5 H' → RefCase s0 H' w xs want) → ∀ a, H5 a = none → ∀ r, (upd H5 a (.tup xs)) r = none → Q (.ref r) (upd (upd H5 a (.tup xs)) r (.tup [.str w, .ref a, .str want])) := fun H5 w want xs fr hd hc a ha r hr' => by
      have s1 : Same H5 (upd H5 a (.tup xs)) := Same.new ha
      have s2 : Same (upd H5 a (.tup xs)) (upd (upd H5 a (.tup xs)) r (.tup [.str w, .ref a, .str want])) := Same.new hr'
      have S := Same.trans s1 s2
      exact k r a w want xs _ (fr.same S) (hd.same S) upd_same (s2 _ _ upd_same) (hc _ S)
    have two : ∀ (H5 : Hp), DealAt H5 [d, l] → ∀ (o2 : Addr) (ys : List V), H5 o2 = none → 1 ≤ ys.length → ys.length ≤ 1000 → ∀ R : VK, (∀ y H6, y ∈ ys → Fr [d, l] H5 H6 → DealAt H6 [d, l] → R y H6) → sp__law_of c [.ref d, .ref o2] (upd H5 o2 (.lst ys)) R E0 := fun H5 hd5 o2 ys ho2 h1 h2 R q => by
      have s6 : Same H5 (upd H5 o2 (.lst ys)) := Same.new ho2
      refine ⟨d, l, o2, ys, rfl, hd5.same s6, .inl upd_same, hd5.free ho2, h1, h2, fun i y H6 hy fr hd => q y H6 (List.mem_of_getElem? hy) (Same.thenFr s6 fr) hd⟩
    refine ⟨_, rfl, rfl, _, rfl, ?_⟩
    rw [dec_int]
    by_cases c0 : kd = 0
    · rw [show (kd == 0) = true from by simpa using c0]
      refine iteT ⟨_, rfl, _, rfl, _, rfl, (by show 2 ≤ sizeLine; decide), fun o2 ho2 => two H4 hD4 o2 _ ho2 (by show 1 ≤ 2; omega) (by show 2 ≤ 1000; omega) _ fun y H6 hy fr6 hD6 => ⟨(by show 2 ≤ sizeLine; decide), fun a ha => ⟨(by show 3 ≤ sizeLine; decide), fun r hr' => fin H6 "come" "hand" _ (FR4.trans fr6) hD6 (fun H' s' => .inl ⟨x, y, rfl, rfl, (hodd4.1.fr hD4 fr6).same s' |>.kd, ?_, .inl ⟨hodd4.2, rfl⟩⟩) a ha r hr'⟩⟩⟩
      simp only [List.mem_cons, List.not_mem_nil, or_false] at hy
      rcases hy with rfl | rfl <;> trivial
    rw [show (kd == 0) = false from by simpa using c0]
    refine iteF ⟨_, rfl, rfl, _, rfl, ?_⟩
    rw [dec_int]
    by_cases c1 : kd = 1
    · rw [show (kd == 1) = true from by simpa using c1]
      refine iteT ⟨_, rfl, _, rfl, d, l, s0.n, rfl, hD4, by omega, by omega, fun r1 H5 fr5 hD5 r10 r11 => ?_⟩
      refine ⟨_, rfl, _, rfl, _, rfl, (by show 1 ≤ sizeLine; decide), fun q2 hq2 => ⟨(by show 6 ≤ sizeLine; decide), fun o2 ho2 => ?_⟩⟩
      have s6 : Same H5 (upd H5 q2 (.tup [.int 0])) := Same.new hq2
      have eq6 : (upd H5 q2 (.tup [.int 0])) q2 = some (.tup [.int 0]) := upd_same
      have hD6 := hD5.same s6
      have fr6 : Fr [d, l] H4 (upd H5 q2 (.tup [.int 0])) := fr5.same s6
      generalize upd H5 q2 (.tup [.int 0]) = H6 at s6 eq6 hD6 fr6 ho2 ⊢
      refine two H6 hD6 o2 _ ho2 (by show 1 ≤ 6; omega) (by show 6 ≤ 1000; omega) _ fun y H7 hy fr7 hD7 => ⟨(by show 2 ≤ sizeLine; decide), fun a ha => ⟨(by show 3 ≤ sizeLine; decide), fun r hr' => fin H7 "come" "thing" _ ((FR4.trans fr6).trans fr7) hD7 (fun H' s' => ?_) a ha r hr'⟩⟩
      have hy2 : Odd H7 s0.m y := by
        simp only [List.mem_cons, List.not_mem_nil, or_false] at hy
        rcases hy with rfl | rfl | rfl | rfl | rfl | rfl
        · exact odd_int (.inl (by omega))
        · exact odd_int (.inr (by omega))
        · exact ⟨.inl fun _ => trivial, rfl⟩
        · exact ⟨.inl fun _ => trivial, rfl⟩
        · exact ⟨.inl fun _ => trivial, rfl⟩
        · exact ⟨KdS.fr (.inr ⟨q2, _, rfl, eq6⟩) hD6 fr7, rfl⟩
      exact .inl ⟨.int r1, y, rfl, rfl, trivial, (hy2.1.same s').kd, .inr ⟨isB_on r10 r11, hy2.2, rfl⟩⟩
    rw [show (kd == 1) = false from by simpa using c1]
    refine iteF ⟨_, rfl, rfl, _, rfl, ?_⟩
    rw [dec_int]
    by_cases c2 : kd = 2
    · rw [show (kd == 2) = true from by simpa using c2]
      refine iteT ⟨_, rfl, _, rfl, _, rfl, (by show 2 ≤ sizeLine; decide), fun o2 ho2 => two H4 hD4 o2 _ ho2 (by show 1 ≤ 2; omega) (by show 2 ≤ 1000; omega) _ fun y H6 hy fr6 hD6 => ⟨(by show 2 ≤ sizeLine; decide), fun a ha => ⟨(by show 3 ≤ sizeLine; decide), fun r hr' => fin H6 "send" "hand" _ (FR4.trans fr6) hD6 (fun H' s' => .inr (.inl ⟨x, y, rfl, rfl, (hodd4.1.fr hD4 fr6).same s' |>.kd, ?_, .inl ⟨hodd4.2, rfl⟩⟩)) a ha r hr'⟩⟩⟩
      simp only [List.mem_cons, List.not_mem_nil, or_false] at hy
      rcases hy with rfl | rfl <;> trivial
    rw [show (kd == 2) = false from by simpa using c2]
    refine iteF ⟨_, rfl, rfl, _, rfl, ?_⟩
    rw [dec_int]
    by_cases c3 : kd = 3
    · rw [show (kd == 3) = true from by simpa using c3]
      refine iteT ⟨_, rfl, _, rfl, d, l, s0.n, rfl, hD4, by omega, by omega, fun r1 H5 fr5 hD5 r10 r11 => ⟨_, rfl, (by show 2 ≤ sizeLine; decide), fun a ha => ⟨(by show 3 ≤ sizeLine; decide), fun r hr' => fin H5 "send" "to" _ (FR4.trans fr5) hD5 (fun H' s' => .inr (.inl ⟨.int r1, x, rfl, rfl, trivial, (hodd4.1.fr hD4 fr5).same s' |>.kd, .inr (.inl ⟨isB_on r10 r11, hodd4.2, rfl⟩)⟩)) a ha r hr'⟩⟩⟩
    rw [show (kd == 3) = false from by simpa using c3]
    refine iteF ⟨Nat.zero_le _, fun el hel => ?_⟩
    have s5 : Same H4 (upd H4 el (.lst [])) := Same.new hel
    refine ⟨_, rfl, s0.n, rfl, by omega, by omega, for_range (lo := 0) (n := s0.n.toNat) (fun i σ H' => ∃ (e : Addr) (v7 : Option V) (es : List (Int × Int)), σ = [some (.ref d), some (.int s0.m), some (.int s0.n), some (.ref t), some x, some (.int kd), some (.ref e), v7, none] ∧ Same H4 H' ∧ H4 e = none ∧ LotL H' e (es.map pr) ∧ es.length ≤ 4 * i ∧ (1 ≤ i → 1 ≤ es.length) ∧ ∀ p ∈ es, 0 ≤ p.1 ∧ p.1 < s0.n ∧ 0 ≤ p.2 ∧ p.2 < s0.n ∧ p ∉ s0.rs)
      ⟨el, none, [], rfl, s5, hel, ⟨[], upd_same, .nil⟩, Nat.le_refl _, fun h => absurd h (by omega), fun p hp => by cases hp⟩ ?_ ?_⟩
    · rintro i σ H5 hi ⟨e, v7, es, rfl, s5', he, ⟨as, has, has2⟩, hlen, hpos, hall⟩
      have ht5 := ht4.same s5'
      have hlr : (rng 0 s0.n).length ≤ 4 := by rw [len_rng]; omega
      refine ⟨_, rfl, _, rfl, s0.n, rfl, by omega, by omega, fun D hD => lc_fmR 0 s0.n (fun to => !decide (pr (0 + (i : Int), to) ∈ s0.rs.map pr)) (IsLotR fun to => pr (0 + (i : Int), to)) (stb_lot _) hD (by omega) (fun to hto H' s' Rb kb => ?_) (fun to hto _ H' s' Rq kq => ?_) fun ys H6 s6 hys pp => ?_⟩
      · refine ⟨_, rfl, _, rfl, (by show 2 ≤ sizeLine; decide), fun a ha => ?_⟩
        have s7 : Same H' (upd H' a (.tup [.int (0 + (i : Int)), .int to])) := Same.new ha
        have ea : TupI (upd H' a (.tup [.int (0 + (i : Int)), .int to])) a (pr (0 + (i : Int), to)) := upd_same
        refine ⟨_, rfl, lotD (pr (0 + (i : Int), to)), lotsD (s0.rs.map pr), dp_lot ea, dp_lotL ((ht5.same s').same s7), sh_lot _, sh_lotL _, _, rfl, ?_⟩
        rw [any_lots]
        exact kb _ s7
      · exact ⟨_, rfl, _, rfl, (by show 2 ≤ sizeLine; decide), fun a ha => kq _ _ (Same.new ha) ⟨a, rfl, upd_same⟩⟩
      · obtain ⟨bs, rfl, hbs⟩ := paired_lot pp
        have hbl := Paired.len' hbs
        have hfl := List.length_filter_le (fun to => !decide (pr (0 + (i : Int), to) ∈ s0.rs.map pr)) (rng 0 s0.n)
        rw [List.length_map] at hbl
        have hal := Paired.len' has2
        rw [List.length_map] at hal
        refine ⟨e, D, _, _, rfl, rfl, s6 _ _ has, hys, by rw [List.length_map, List.length_map]; exact small_k (by omega), fun o ho => ?_⟩
        have s7 : Same H6 (upd H6 o (.lst (as.map V.ref ++ bs.map V.ref))) := Same.new ho
        have ein : (0 + (i : Int)) ∈ (rng 0 s0.n).filter fun to => !decide (pr (0 + (i : Int), to) ∈ s0.rs.map pr) := by
          rw [List.mem_filter, mem_rng]
          refine ⟨by omega, ?_⟩
          have : ¬ (pr (0 + (i : Int), 0 + (i : Int)) ∈ s0.rs.map pr) := fun z => by
            have h1 := hok.rds.2.2 _ (mem_pr.mp z)
            unfold RdOk at h1
            exact h1.2.2.2.2 rfl
          show (!decide (pr (0 + (i : Int), 0 + (i : Int)) ∈ s0.rs.map pr)) = true
          rw [decide_eq_false this]; rfl
        refine ⟨o, _, es ++ ((rng 0 s0.n).filter fun to => !decide (pr (0 + (i : Int), to) ∈ s0.rs.map pr)).map fun to => (0 + (i : Int), to), rfl, (s5'.trans s6).trans s7, Same.free (s5'.trans s6) ho, ⟨as ++ bs, ?_, ?_⟩, ?_, fun _ => ?_, fun p hp => ?_⟩
        · show upd _ o _ o = _
          rw [upd_same, List.map_append]
        · rw [List.map_append, List.map_map]
          exact Paired.app2 ((has2.same s6).same s7) (hbs.same s7)
        · rw [List.length_append, List.length_map]; omega
        · rw [List.length_append, List.length_map]
          have := List.length_pos_of_mem ein
          omega
        · rcases List.mem_append.mp hp with hp | hp
          · exact hall p hp
          · obtain ⟨to, hto, rfl⟩ := List.mem_map.mp hp
            rw [List.mem_filter, mem_rng] at hto
            refine ⟨by show 0 ≤ 0 + (i : Int); omega, by show 0 + (i : Int) < s0.n; omega, hto.1.1, hto.1.2, fun z => ?_⟩
            have h2 : (!decide (pr (0 + (i : Int), to) ∈ s0.rs.map pr)) = true := hto.2
            rw [decide_eq_true (mem_pr.mpr z)] at h2
            cases h2
    · rintro σ H5 ⟨e, v7, es, rfl, s5', he, ⟨as, has, has2⟩, hlen, hpos, hall⟩
      have hal := Paired.len' has2
      rw [List.length_map] at hal
      refine ⟨_, rfl, _, rfl, d, l, e, _, rfl, hD4.same s5', .inl has, hD4.free he, by rw [List.length_map, hal]; exact hpos (by omega), by rw [List.length_map, hal]; omega, fun i y H6 hy fr6 hD6 => ?_⟩
      obtain ⟨a, p, rfl, hp, ha⟩ := lots_at has2 hy
      have hpa := hall p (List.mem_of_getElem? hp)
      refine ⟨(by show 3 ≤ sizeLine; decide), fun r hr' => ?_⟩
      have s7 := Same.new (o := .tup [.str ("send" : Str), .ref a, .str ("road" : Str)]) hr'
      exact k r a "send" "road" _ _ (((FR4.same s5').trans fr6).same s7) (hD6.same s7) upd_same (s7 _ _ (fr6.tup (hD4.same s5') ha)) (.inr (.inl ⟨_, _, rfl, rfl, trivial, trivial, .inr (.inr ⟨p.1, p.2, rfl, rfl, hpa.1, hpa.2.1, hpa.2.2.1, hpa.2.2.2.1, hpa.2.2.2.2, rfl⟩)⟩))
end
end Ws
end
section
set_option Elab.async false
set_option linter.all false
set_option maxRecDepth 100000
set_option maxHeartbeats 4000000
namespace Ws
open PySem PySem.Spec PyProof.Rows L2
set_option autoImplicit false
/-! K46: _law_alone. -/
theorem cut_from (l : List V) (n : Nat) : cutV l (some (n : Int)) none = l.drop n := by
  unfold cutV
  rw [HT.sIx_none]
  have : HT.sIx l.length 0 (some (n : Int)) = min n l.length := HT.sIx_nat _ _ n
  rw [this]
  show (l.drop (min n l.length)).take (l.length - min n l.length) = _
  by_cases h : n ≤ l.length
  · rw [Nat.min_eq_left h, List.take_of_length_le (by rw [List.length_drop]; exact Nat.le_refl _)]
  · rw [Nat.min_eq_right (by omega), List.drop_of_length_le (Nat.le_refl _), List.drop_of_length_le (by omega), List.take_nil]
/-- a house that lives on what is new, and not on M -/
def Al (c : Cs) (s : Hs) (H H' : Hp) (x : Addr) (ss : List (List Int)) (n : Nat) (M : List Addr) : Prop := ∃ O el la, Same H H' ∧ (∀ b ∈ O, H b = none) ∧ (∀ b ∈ O, b ∉ M) ∧ O.head? = some x ∧ LiveAt c s H' O ss el la ∧ el.length ≤ n
theorem LiveAt.alive {c : Cs} {s : Hs} {H : Hp} {O : List Addr} {ss : List (List Int)} {el la : List (List (List Int))} (h : LiveAt c s H O ss el la) : ∀ b ∈ O, H b ≠ none := fun b m => by
  obtain ⟨p, dx, bt, rt, kt, e, l, as, ea, lla, rfl, h⟩ := h
  simp only [List.mem_cons, List.not_mem_nil, or_false] at m
  rcases m with rfl | rfl | rfl
  · rw [h.ins]; intro z; cases z
  · rw [h.els]; intro z; cases z
  · rw [h.lls]; intro z; cases z
section
variable {c : Cs} {s : Hs} {H H' H2 : Hp} {x q : Addr} {ss ss' : List (List Int)} {n : Nat} {M : List Addr}
theorem Al.same (a : Al c s H H' x ss n M) (q : Same H' H2) : Al c s H H2 x ss n M := by
  obtain ⟨O, el, la, s1, f, m, h, l, e⟩ := a
  exact ⟨O, el, la, s1.trans q, f, m, h, l.same q, e⟩
theorem Al.more (a : Al c s H H' x ss n []) (hq : H' q = none) : Al c s H H' x ss n [q] := by
  obtain ⟨O, el, la, s1, f, m, h, l, e⟩ := a
  exact ⟨O, el, la, s1, f, fun b hb z => by rw [List.mem_singleton.mp z] at hb; exact l.alive q hb hq, h, l, e⟩
theorem al_step {O O' : List Addr} {el' la' : List (List (List Int))} (s1 : Same H H') (f : ∀ b ∈ O, H b = none) (m : ∀ b ∈ O, b ∉ M) (hM : ∀ b ∈ M, H' b ≠ none) (h : O.head? = some x) (fr : Fr O H' H2) (ow : Own H' O O') (h2 : O'.head? = O.head?) (l : LiveAt c s H2 O' ss' el' la') (e : el'.length ≤ n) : Al c s H H2 x ss' n M :=
  ⟨O', el', la', fun b o eb => fr b o (fun m => by rw [f b m] at eb; cases eb) (s1 b o eb), fun b m => (ow b m).elim (f b) fun z => Same.free s1 z, fun b hb hbM => (ow b hb).elim (fun z => m b z hbM) fun z => hM b hbM z, h2.trans h, l, e⟩
theorem LiveAt.nst {O : List Addr} {el la : List (List (List Int))} (h : LiveAt c s H O ss el la) (n : c.CB ≠ c.CL) : ∀ a ∈ O, ∃ o, H a = some o ∧ ¬ Still c o := by
  obtain ⟨p, dx, bt, rt, kt, e, l, as, ea, lla, rfl, h⟩ := h
  exact h.nst n
end
theorem rdAt_of {H : Hp} : ∀ {as : List Addr} {rs : List (Int × Int)}, Lots H as (rs.map pr) → Paired (RdAt H) (as.map V.ref) rs
  | [], [], _ => .nil
  | [], _ :: _, h => by cases h
  | _ :: _, [], h => by cases h
  | a :: as, p :: rs, h => by
    cases h with
    | cons h1 h2 => exact .cons ⟨a, rfl, .inr h1⟩ (rdAt_of h2)
theorem uni_nil {m : Int} {u : List Int} (h : LotOk m u) : uni m [] u = u := asc_ext (lot_uni m [] u).1 h.1 fun x => by
  rw [mem_uni (LotOk.nil m) h]
  simp
theorem bks_bkm {c : Cs} {H : Hp} {m : Int} {as : List Addr} {bs : Bks} (h : Paired (BkAt c H m) as bs) : ∀ x ∈ as.map V.ref, BkM c H x m := by
  induction h with
  | nil => intro x hx; cases hx
  | cons r t ih =>
    intro x hx
    rcases List.mem_cons.mp hx with rfl | hx
    · exact r.bkm
    · exact ih x hx
section
variable {P : Program} {w : World} {K : PySem.W.Frag} {mg : Str → Option Value} {base : Heap} {c : Cs} {f1 f2 f3 f4 : Addr} {t9 t6 : Tok}
theorem ok__law_alone (T : Txt P K mg c.CB c.CL c.C1 c.C2 c.C3 c.C4 f1 f2 f3 f4 t9 t6) (d_Live : Dk P w K mg base (L2.CX P w) 8 c.CL "Live" ["self", "books", "roads"] ["books", "roads"] (sp_Live c)) (d_Live_come : Dm P w K mg base (L2.CX P w) 6 c.CL "come" ["self", "hand", "thing"] ["hand", "thing"] (sp_Live_come c)) (d_Live_list_of : Dm P w K mg base (L2.CX P w) 5 c.CL "list_of" ["self", "hand"] ["hand"] (sp_Live_list_of c)) (d_Live_send : Dm P w K mg base (L2.CX P w) 6 c.CL "send" ["self", "hand", "to"] ["hand", "to"] (sp_Live_send c)) (d__law_kept : Dn P w K mg base CX0 3 "_law_kept" ["_law_house_here", "_law_roads", "_law_hand", "_law_heard"] (sp__law_kept c)) (d__law_list : Dn P w K mg base CX0 2 "_law_list" ["_law_table_here", "_law_places", "_law_lot"] (sp__law_list c)) (d__law_reach : Dn P w K mg base CX0 1 "_law_reach" ["_law_roads", "_law_hand"] (sp__law_reach c)) {f : Addr} {fd : FuncData} (F : Fun K "_law_alone" "_law_alone" s__law_alone f fd) : FnOk P w K mg base CX0 10 f fd ["_law_house_here", "_law_books", "_law_roads", "_law_hand", "_law_lot"] (sp__law_alone c) := by
  refine F.ok sc__law_alone (fun vs H Q E h => ?_) (fun cdv A outer s H vs Q E hr h => ?_)
  · obtain ⟨hl, bl, t, a, s0, as, h, u, rfl, hh, hbl, hbk, hst, ht, hok, hhb, hu, huo, hul, k⟩ := h
    rfl
  · obtain ⟨hl, bl, t, a, s0, as, h, u, rfl, hh, hbl, hbk, hst, ht, hok, hhb, hu, huo, hul, k⟩ := h
    refine ⟨_, (pss_cons (ps_set (i := 5) sc__law_alone.nd rfl (Or.inl rfl) (pe_dk d_Live (hr.mono (by decide)) pAL (pa_cons (pv 1) (pa_cons (pv 2) pa_nil))))
    (pss_cons (ps_for PassesOwn.never rfl (pi_tupK (K := K) rfl (pv 4)) (pg_name (i := 6) sc__law_alone.nd rfl (Or.inl rfl))
    (pss_one (ps_expr (pe_dm d_Live_come (pv 5) T.clL (hr.mono (by decide)) pAL (pa_cons (pv 3) (pa_cons (pv 6) pa_nil))))))
    (pss_cons (ps_if (pt_cmpR (op_neD hr.units) (pe_ix (ix_A (K := K) rfl) (pe_fldK (K := K) rfl (pv 5)) (pv 3) (fun _ _ => rfl)) (pe_dn d__law_kept (hr.mono (by decide)) pA0 (pa_cons (pv 0) (pa_cons (pv 2) (pa_cons (pv 3) (pa_cons (pv 4) pa_nil))))) (nomark _))
    (pss_one (ps_ret pe_bl))
    pss_nil)
    (pss_cons (ps_for PassesOwn.never rfl (pi_listK (K := K) rfl (pe_slice sl_list (pe_dn d__law_reach (hr.mono (by decide)) pA0 (pa_cons (pv 2) (pa_cons (pv 3) pa_nil))) (po_some pe_int) po_none)) (pg_tupK (K := K) rfl rfl (pgs_cons (pg_name (i := 7) sc__law_alone.nd rfl (Or.inl rfl)) (pgs_cons (pg_name (i := 8) sc__law_alone.nd rfl (Or.inl rfl)) pgs_nil)))
    (pss_one (ps_expr (pe_dm d_Live_send (pv 5) T.clL (hr.mono (by decide)) pAL (pa_cons (pv 8) (pa_cons (pv 7) pa_nil))))))
    (pss_cons (ps_for PassesOwn.never rfl (pi_listK (K := K) rfl (pe_dn d__law_reach (hr.mono (by decide)) pA0 (pa_cons (pv 2) (pa_cons (pv 3) pa_nil)))) (pg_tupK (K := K) rfl rfl (pgs_cons (pg_name (i := 7) sc__law_alone.nd rfl (Or.inl rfl)) (pgs_cons (pg_name (i := 8) sc__law_alone.nd rfl (Or.inl rfl)) pgs_nil)))
    (pss_one (ps_if (pt_cmpR (op_neD hr.units) (pe_dm d_Live_list_of (pv 5) T.clL (hr.mono (by decide)) pAL (pa_cons (pv 7) pa_nil)) (pe_dn d__law_list (hr.mono (by decide)) pA0 (pa_cons (pe_ix (ix_A (K := K) rfl) (pe_ix (ix_A (K := K) rfl) (pv 0) (pv 7) (fun _ _ => rfl)) pe_int (fun _ _ => rfl)) (pa_cons (pe_ix (ix_A (K := K) rfl) (pe_ix (ix_A (K := K) rfl) (pv 0) (pv 7) (fun _ _ => rfl)) pe_int (fun _ _ => rfl)) (pa_cons (pv 4) pa_nil)))) (nomark _))
    (pss_one (ps_ret pe_bl))
    pss_nil)))
    (pss_one (ps_ret pe_bl))))))), ?_⟩
    have hnn : s0.n = (s0.bs.length : Int) := rfl
    have hn1 := hok.n1
    have hn4 := hok.rds.1
    have hlen := Paired.len' hbk
    refine ⟨_, rfl, _, rfl, fun x dx hx hdx ndx => ?_⟩
    have s0' : Same H (upd (upd H dx (.own x)) x (.ins c.CL dx [])) := Same.put (Same.new hdx) (by rw [upd_ne (Ne.symm ndx)]; exact hx)
    have ex0 : (upd (upd H dx (.own x)) x (.ins c.CL dx [])) x = some (.ins c.CL dx []) := upd_same
    have edx0 : (upd (upd H dx (.own x)) x (.ins c.CL dx [])) dx = some (.own x) := by rw [upd_ne ndx]; exact upd_same
    generalize upd (upd H dx (.own x)) x (.ins c.CL dx []) = H0 at s0' ex0 edx0 ⊢
    have hbk0 : Paired (BkAt c H0 s0.m) as s0.bs := (Same.kt s0').bks hbk
    have hro : RoadsOk H0 (.ref t) (as.length : Int) s0.rs := by
      obtain ⟨ts, e1, e2⟩ := ht
      have hl1 := Paired.len' e2
      rw [List.length_map] at hl1
      have := hok.rds.2.1
      refine ⟨t, _, rfl, .inl (s0' _ _ e1), by rw [List.length_map]; omega, rdAt_of (e2.same s0'), ?_, hok.nd⟩
      rw [hlen]
      exact hok.rds.2.2
    refine ⟨x, dx, _, _, rfl, ex0, edx0, .inr (.inr (.inr ⟨as, s0, s0.rs, hok, ⟨bl, s0.m, rfl, .inl (s0' _ _ hbl), by rw [List.length_map]; omega, by rw [List.length_map]; omega, bks_bkm hbk0⟩, hbk0, hst, hro, List.Perm.refl _, fun H1 el ll b1 hel hll L1 _ => ⟨rfl, ?_⟩⟩))⟩
    have S1 : Same H H1 := fun b o e => b1 b o (fun z => by rw [z, hx] at e; cases e) (s0' b o e)
    have A1 : Al c s0 H H1 x (s0.bs.map fun _ => []) 0 [] := ⟨_, _, _, S1, fun b m => by
      simp only [List.mem_cons, List.not_mem_nil, or_false] at m
      rcases m with rfl | rfl | rfl
      · exact hx
      · exact Same.free s0' hel
      · exact Same.free s0' hll, fun b _ z => (by cases z), rfl, L1, Nat.le_refl _⟩
    refine ⟨_, rfl, a, rfl, ⟨_, SqT.of (S1 _ _ hu)⟩, for_tup (K := K) (a := a) (xs := u.map V.int) (fun i σ H' => ∃ (v6 : Option V) (ss : List (List Int)) (w : List Int), σ = [some (.ref hl), some (.ref bl), some (.ref t), some (.int (h : Int)), some (.ref a), some (.ref x), v6, none, none] ∧ Al c s0 H H' x ss i [] ∧ ss.length = s0.bs.length ∧ (∀ j y, j ≠ h → ss[j]? = some y → y = []) ∧ ss[h]? = some w ∧ LotOk s0.m w ∧ ∀ z, z ∈ w ↔ z ∈ u.take i)
      ⟨none, _, [], rfl, A1, by rw [List.length_map], fun j y _ e => ?_, ?_, LotOk.nil _, fun z => by simp⟩ (fun i σ H' _ ⟨_, _, _, _, ⟨_, _, _, s', _⟩, _⟩ => SqT.of (s' _ _ hu)) ?_ ?_⟩
    · rw [List.getElem?_map] at e
      obtain ⟨_, _, rfl⟩ := Option.map_eq_some_iff.mp e
      rfl
    · rw [List.getElem?_map]; simp [hhb]
    · rintro i v σ H' hv ⟨v6, ss, w, rfl, ⟨O, el, la, s', f, fM, hO, L, hel⟩, hsl, hoth, hw, hwo, hmem⟩
      obtain ⟨th, hth, rfl⟩ := map_int_at hv
      have hthb := huo.2 th (List.mem_of_getElem? hth)
      have hil := (List.getElem?_eq_some_iff.mp hth).1
      obtain ⟨dx', bt, rt, kt, e2, l2, as', ea, lla, _, Lx⟩ := L.at hO
      have hbh := isB_in Lx.heard hw
      have hbm : isB s0.m (.int th) = true := by simp only [isB, Bool.and_eq_true, decide_eq_true_eq]; exact hthb
      refine ⟨_, rfl, x, _, _, rfl, Lx.ins, rfl, _, rfl, _, rfl, x, s0, O, ss, el, la, .int (h : Int), .int th, rfl, hO, L, hok, by omega, trivial, trivial, fun z => (by rw [hbh] at z; cases z), fun _ z => (by rw [hbm] at z; cases z), fun h' x' u' e1 e2' hu' _ _ => ?_⟩
      have eh : h = h' := by injection e1 with e1; omega
      subst eh
      rw [hw] at hu'
      cases hu'
      injection e2' with e2'
      subst e2'
      intro r H2 O' fr ow hh' L2 _
      refine ⟨_, _, uni s0.m w [th], rfl, al_step s' f fM (fun b z => (by cases z)) hO fr ow hh' L2 (by rw [List.length_append, List.length_singleton]; omega), by rw [List.length_set]; exact hsl, fun j y hj hy => ?_, List.getElem?_set_self (List.getElem?_eq_some_iff.mp hw).1, lot_uni _ _ _, fun z => ?_⟩
      · rw [List.getElem?_set_ne (Ne.symm hj)] at hy
        exact hoth j y hj hy
      · rw [mem_uni hwo (lot_one hthb.1 hthb.2), hmem, take_more1 hth, List.mem_append]
    · rintro σ H' ⟨v6, ss, w, rfl, A, hsl, hoth, hw, hwo, hmem⟩
      rw [List.length_map, List.take_length] at hmem
      have ew : w = u := asc_ext hwo.1 huo.1 hmem
      subst ew
      have hA := A
      obtain ⟨O, el, la, s', f, fM, hO, L, hel⟩ := hA
      obtain ⟨dx', bt, rt, kt, e2, l2, as', ea, lla, _, Lx⟩ := L.at hO
      obtain ⟨ks, hkt, hks⟩ := Lx.kept
      obtain ⟨ka, hka, hkk⟩ := Paired.at2 hks (keptL_at hw)
      refine ⟨_, rfl, x, _, _, _, _, rfl, Lx.ins, T.clL, T.nL3, rfl, _, rfl, kt, _, _, _, rfl, rfl, .inr (SqT.of hkt), atI_nat (map_at hka), ?_⟩
      refine ⟨_, rfl, _, rfl, _, rfl, _, rfl, hl, t, a, s0, h, w, rfl, hh.same s', ht.same s', hok, hhb, s' _ _ hu, huo, hul, fun r H2 s2 hr2 => ?_⟩
      refine ⟨lotD (s0.kept h w), lotD (s0.kept h w), dp_lot (s2 _ _ hkk), dp_lot hr2, sh_lot _, sh_lot _, _, rfl, ?_⟩
      rw [eqv_self _ (sh_lot _)]
      have A2 := A.same s2
      have S2 := s'.trans s2
      refine iteF ⟨_, rfl, _, rfl, t, (h : Int), s0.n, s0.rs, rfl, ht.same S2, hok.rds, by omega, by omega, fun rl xs H3 s3 hrl hL3 hxl hR => ?_⟩
      obtain ⟨bs, hbs, hbl2⟩ := hL3
      obtain ⟨rest, hx0⟩ := hR.head
      have hpair : ∃ b0 bs', bs = b0 :: bs' ∧ Lots H3 bs' (rest.map pr) := by
        rw [hx0] at hbl2
        cases hbl2 with
        | cons r1 r2 => exact ⟨_, _, rfl, r2⟩
      obtain ⟨b0, bs', rfl, hrest⟩ := hpair
      have hrl2 : rest.length ≤ 3 := by rw [hx0, List.length_cons] at hxl; omega
      have hrl3 := Paired.len' hrest
      rw [List.length_map] at hrl3
      refine ⟨1, rfl, rl, _, rfl, SqL.of hbs, fun q hq => ?_⟩
      have s4 : Same H3 (upd H3 q (.lst (cutV ((b0 :: bs').map V.ref) (some 1) none))) := Same.new hq
      have eq4 : (upd H3 q (.lst (cutV ((b0 :: bs').map V.ref) (some 1) none))) q = some (.lst (bs'.map V.ref)) := by
        rw [upd_same]
        exact congrArg (fun z => some (HO.lst z)) (cut_from ((b0 :: bs').map V.ref) 1)
      have hrest4 := hrest.same s4
      have A4 : Al c s0 H (upd H3 q (.lst (cutV ((b0 :: bs').map V.ref) (some 1) none))) x ss (w.map V.int).length [q] := ((A2.same s3).more hq).same s4
      generalize upd H3 q (.lst (cutV ((b0 :: bs').map V.ref) (some 1) none)) = H4 at s4 eq4 hrest4 A4 ⊢
      have S34 : Same H2 H4 := Same.trans s3 s4
      have S4 : Same H H4 := S2.trans S34
      rw [List.length_map] at A4
      have hfst : xs.map (·.1) = (h : Int) :: rest.map (·.1) := by rw [hx0]; rfl
      have hnd := hR.nd
      refine ⟨q, rfl, ⟨_, SqL.of eq4⟩, for_list (K := K) (a := q) (xs := bs'.map V.ref) (fun i σ H' => ∃ (v6 v7 v8 : Option V) (ss : List (List Int)), σ = [some (.ref hl), some (.ref bl), some (.ref t), some (.int (h : Int)), some (.ref a), some (.ref x), v6, v7, v8] ∧ Kt c H4 H' ∧ H' q = some (.lst (bs'.map V.ref)) ∧ Al c s0 H H' x ss (w.length + i) [q] ∧ ss.length = s0.bs.length ∧ ∀ (j : Nat) y, ss[j]? = some y → ((j : Int) ∈ (xs.take (i + 1)).map (·.1) → y = w) ∧ ((j : Int) ∉ (xs.take (i + 1)).map (·.1) → y = []))
        ⟨v6, none, none, ss, rfl, (fun _ _ _ e => e), eq4, A4, hsl, fun j y hy => ?_⟩ (fun i σ H' _ ⟨_, _, _, _, _, _, e', _⟩ => SqL.of e') ?_ ?_⟩
      · rw [hx0]
        show ((j : Int) ∈ [(h : Int)] → _) ∧ ((j : Int) ∉ [(h : Int)] → _)
        rw [List.mem_singleton]
        refine ⟨fun e => ?_, fun e => hoth j y (by omega) hy⟩
        have e : j = h := by omega
        subst e
        rw [hw] at hy
        exact (Option.some.inj hy).symm
      · rintro i v σ H5 hv ⟨v6, v7, v8, ss, rfl, k5, eq5, ⟨O, el, la, s', f, fM, hO, L, hel⟩, hsl, hss⟩
        obtain ⟨b, p, rfl, hp, hb⟩ := lots_at (k5.lots hrest4) hv
        have hpx : xs[i + 1]? = some p := by rw [hx0]; exact hp
        obtain ⟨hprs, jj, pq, hjj, hpq, hpe⟩ := hR.way (i + 1) p (by omega) hpx
        have hrd := hok.rds.2.2 _ hprs
        obtain ⟨p1, p2⟩ := p
        unfold RdOk at hrd
        simp only at hrd hprs hpe
        obtain ⟨y1, rfl⟩ : ∃ y : Nat, p1 = (y : Int) := ⟨p1.toNat, by omega⟩
        obtain ⟨y2, rfl⟩ : ∃ y : Nat, p2 = (y : Int) := ⟨p2.toNat, by omega⟩
        have hy1 : y1 < ss.length := by omega
        have hy2 : y2 < ss.length := by omega
        obtain ⟨u1, hu1⟩ : ∃ u, ss[y1]? = some u := ⟨ss[y1], by simp [hy1]⟩
        obtain ⟨u2, hu2⟩ : ∃ u, ss[y2]? = some u := ⟨ss[y2], by simp [hy2]⟩
        have in2 : (y2 : Int) ∈ (xs.take (i + 1)).map (·.1) := by
          rw [← hpe]
          exact List.mem_map.mpr ⟨pq, List.mem_of_getElem? (show (xs.take (i + 1))[jj]? = some pq by rw [List.getElem?_take, if_pos hjj]; exact hpq), rfl⟩
        have out1 : (y1 : Int) ∉ (xs.take (i + 1)).map (·.1) := fun m => by
          obtain ⟨pp, hpp, e⟩ := List.mem_map.mp m
          obtain ⟨k', hk'⟩ := List.mem_iff_getElem?.mp hpp
          rw [List.getElem?_take] at hk'
          split at hk'
          · rename_i hlt
            have e1 : (xs.map (·.1))[k']? = some (y1 : Int) := by rw [List.getElem?_map, hk']; exact congrArg some e
            have e2 : (xs.map (·.1))[i + 1]? = some (y1 : Int) := by rw [List.getElem?_map, hpx]; rfl
            have := (List.getElem?_inj (List.getElem?_eq_some_iff.mp e1).1 hnd).mp (e1.trans e2.symm)
            omega
          · cases hk'
        have e1 : u1 = [] := (hss y1 u1 hu1).2 out1
        have e2 : u2 = w := (hss y2 u2 hu2).1 in2
        subst e1
        subst e2
        obtain ⟨dx', bt, rt, kt, e2, l2, as', ea, lla, _, Lx⟩ := L.at hO
        have b1 := isB_in Lx.heard hu1
        have b2 := isB_in Lx.heard hu2
        have hil := (List.getElem?_eq_some_iff.mp hp).1
        refine ⟨b, _, rfl, SqT.of hb, rfl, _, _, rfl, _, _, rfl, rfl, ?_⟩
        refine ⟨_, rfl, x, _, _, rfl, Lx.ins, rfl, _, rfl, _, rfl, x, s0, O, ss, el, la, .int (y2 : Int), .int (y1 : Int), rfl, hO, L, hok, by omega, trivial, trivial, fun z => (by rw [b2] at z; cases z), fun _ z => (by rw [b1] at z; cases z), fun i' j' ei ej _ _ _ _ hno => ?_, fun i' j' u' u2' ei ej hu' hu2' _ => ?_⟩
        · injection ei with ei
          injection ej with ej
          rw [← ei, ← ej] at hno
          exact absurd hprs hno
        · have ei' : y2 = i' := by injection ei with ei; omega
          have ej' : y1 = j' := by injection ej with ej; omega
          subst ei'
          subst ej'
          rw [hu2] at hu'
          rw [hu1] at hu2'
          cases hu'
          cases hu2'
          intro r H6 O' fr ow hh' L6 _
          have A6 := al_step (n := u2.length + (i + 1)) (M := [q]) s' f fM (fun b z => by rw [List.mem_singleton.mp z, eq5]; intro z; cases z) hO fr ow hh' L6 (by rw [List.length_append, List.length_singleton]; omega)
          have k6 : Kt c H5 H6 := fr.kt (L.nst T.neBL)
          refine ⟨_, _, _, _, rfl, k5.trans k6, fr _ _ (fun z => fM q z (by simp)) eq5, A6, by rw [List.length_set]; exact hsl, fun j y hy => ?_⟩
          have hmore : (xs.take (i + 1 + 1)).map (·.1) = (xs.take (i + 1)).map (·.1) ++ [(y1 : Int)] := by rw [take_more1 hpx, List.map_append]; rfl
          rw [hmore, List.mem_append, List.mem_singleton]
          by_cases e : j = y1
          · subst e
            rw [List.getElem?_set_self hy1, uni_nil hwo] at hy
            cases hy
            exact ⟨fun _ => rfl, fun z => absurd (.inr rfl) z⟩
          · rw [List.getElem?_set_ne (Ne.symm e)] at hy
            obtain ⟨q1, q2⟩ := hss j y hy
            refine ⟨fun z => q1 (z.resolve_right (by omega)), fun z => q2 fun m => z (.inl m)⟩
      · rintro σ H5 ⟨v6, v7, v8, ss, rfl, k5, eq5, A5, hsl, hss⟩
        rw [show (bs'.map V.ref).length = rest.length by rw [List.length_map, hrl3], show xs.take (rest.length + 1) = xs by rw [hx0]; exact List.take_length (l := (((h : Int), (h : Int)) :: rest))] at hss
        obtain ⟨O, el, la, s5, f, fM, hO, L, hel⟩ := A5
        obtain ⟨dx', bt, rt, kt, e2, l2, as', ea, lla, _, Lx⟩ := L.at hO
        refine ⟨_, rfl, _, rfl, t, (h : Int), s0.n, s0.rs, rfl, ht.same s5, hok.rds, by omega, by omega, fun rl2 xs2 H6 s6 _ hL6 hxl2 hR2 => ?_⟩
        obtain ⟨bs2, hbs2, hbl3⟩ := hL6
        refine ⟨rl2, rfl, ⟨_, SqL.of hbs2⟩, for_list (K := K) (a := rl2) (xs := bs2.map V.ref) (fun i σ H' => ∃ (v6 v7 v8 : Option V), σ = [some (.ref hl), some (.ref bl), some (.ref t), some (.int (h : Int)), some (.ref a), some (.ref x), v6, v7, v8] ∧ Same H6 H')
          ⟨v6, v7, v8, rfl, Same.refl _⟩ (fun i σ H' _ ⟨_, _, _, _, s'⟩ => SqL.of (s' _ _ hbs2)) ?_ ?_⟩
        · rintro i v σ H7 hv ⟨v6, v7, v8, rfl, s7⟩
          obtain ⟨b, p, rfl, hp, hb⟩ := lots_at (Paired.map' hbl3 fun _ _ e => s7 _ _ e) hv
          have hpm : p.1 ∈ xs2.map (·.1) := List.mem_map.mpr ⟨p, List.mem_of_getElem? hp, rfl⟩
          have hrc := (hR2.mem _).mp hpm
          have hin := (hR.mem _).mpr hrc
          have hpw := rch_in hok hhb _ hrc
          obtain ⟨p1, p2⟩ := p
          simp only at hpw hin
          obtain ⟨j, rfl⟩ : ∃ j : Nat, p1 = (j : Int) := ⟨p1.toNat, by omega⟩
          have hj : j < s0.bs.length := by omega
          obtain ⟨y, hy⟩ : ∃ y, ss[j]? = some y := ⟨ss[j]'(by omega), by simp⟩
          have ey : y = w := (hss j y hy).1 hin
          subst ey
          have S7 := s6.trans s7
          have S07 := s5.trans S7
          have L7 := Lx.same S7
          refine ⟨b, _, rfl, SqT.of hb, rfl, _, _, rfl, _, _, rfl, rfl, ?_⟩
          refine ⟨_, rfl, x, _, _, rfl, L7.ins, rfl, _, rfl, x, s0, O, ss, el, la, .int (j : Int), rfl, hO, L.same S7, hok, trivial, fun z => (by rw [isB_in Lx.heard hy] at z; cases z), fun h' t' e1 e2' a5 H8 s8 ha5 => ?_⟩
          have ej : j = h' := by injection e1 with e1; omega
          subst ej
          rw [hy] at e2'
          cases e2'
          have S8 := S07.trans s8
          obtain ⟨ts, et, qq, hts, hte, hqq, d, hed, htab⟩ := (hh.same S8).at hj
          have hbk' : bk s0.bs (j : Int) = qq := bk_of hqq
          have hqm := List.mem_of_getElem? hqq
          have G := hok.bks.good qq hqm
          have hk3 := hok.k3 qq hqm
          refine ⟨_, rfl, _, rfl, hl, _, _, _, rfl, rfl, .inl (SqL.of hts), atI_nat (map_at hte), et, _, _, _, rfl, rfl, .inr (SqT.of hed), atI1 rfl, ?_⟩
          refine ⟨_, rfl, _, rfl, hl, _, _, _, rfl, rfl, .inl (SqL.of hts), atI_nat (map_at hte), et, _, _, _, rfl, rfl, .inr (SqT.of hed), atI0 rfl, ?_⟩
          refine ⟨_, rfl, d, a, s0.m, qq.1, qq.2, y, rfl, htab, G, by omega, S8 _ _ hu, huo, fun r H9 s9 hr9 => ?_⟩
          have elst : lstOf s0.bs (j : Int) y = lst qq.2 qq.1 y := by unfold lstOf; rw [hbk']
          rw [elst] at ha5
          refine ⟨lotD (lst qq.2 qq.1 y), lotD (lst qq.2 qq.1 y), dp_lot (s9 _ _ ha5), dp_lot hr9, sh_lot _, sh_lot _, _, rfl, ?_⟩
          rw [eqv_self _ (sh_lot _)]
          exact iteF ⟨_, _, _, rfl, (s7.trans s8).trans s9⟩
        · rintro σ H7 ⟨v6, v7, v8, rfl, s7⟩
          exact k H7 ((s5.trans s6).trans s7)
end
end Ws
end
section
set_option Elab.async false
set_option linter.all false
set_option maxRecDepth 100000
set_option maxHeartbeats 4000000
namespace Ws
open PySem PySem.Spec PyProof.Rows L2
set_option autoImplicit false
/-! K47: _law_built. -/
theorem BooksBad.same {c : Cs} {H H' : Hp} {v : V} {at_ : Int} (h : BooksBad c H v at_) (s : Same H H') : BooksBad c H' v at_ := by
  rcases h with ⟨h1, h2, h3⟩ | ⟨a, xs, e, h1, h2⟩
  · exact .inl ⟨h1.same s, h2, h3⟩
  · refine .inr ⟨a, xs, e, h1.same s, h2.imp id fun ⟨l1, l6, j, m, y, hy, e2, hall, hb⟩ => ⟨l1, l6, j, m, y, hy, e2, fun i x hi hx => (hall i x hi hx).same s, hb.imp (fun h => h.same s) fun ⟨h0, m', hm, hk⟩ => ⟨h0, m', hm, hk.same s⟩⟩⟩
theorem BooksOk.same {c : Cs} {H H' : Hp} {v : V} {xs : List V} (h : BooksOk c H v xs) (s : Same H H') : BooksOk c H' v xs := by
  obtain ⟨a, m, e, h1, h2, h3, h4⟩ := h
  exact ⟨a, m, e, h1.same s, h2, h3, fun x hx => (h4 x hx).same s⟩
section
variable {P : Program} {w : World} {K : PySem.W.Frag} {mg : Str → Option Value} {base : Heap} {c : Cs} {f1 f2 f3 f4 : Addr} {t9 t6 : Tok}
theorem ok__law_built (T : Txt P K mg c.CB c.CL c.C1 c.C2 c.C3 c.C4 f1 f2 f3 f4 t9 t6) (d_Live : Dk P w K mg base (L2.CX P w) 8 c.CL "Live" ["self", "books", "roads"] ["books", "roads"] (sp_Live c)) {f : Addr} {fd : FuncData} (F : Fun K "_law_built" "_law_built" s__law_built f fd) : FnOk P w K mg base CX0 10 f fd ["_law_books", "_law_roads"] (sp__law_built c) := by
  refine F.ok sc__law_built (fun vs H Q E h => ?_) (fun cdv A outer s H vs Q E hr h => ?_)
  · obtain ⟨b, r, w0, at_, rfl, hc, k⟩ := h
    rfl
  · obtain ⟨b, r, w0, at_, rfl, hc, k⟩ := h
    refine ⟨_, (pss_cons (ps_try_manyAs (i := 2) rfl rfl sc__law_built.nd rfl rfl takes0 (fun W pn xe tk _ => (pss_one (ps_expr (pe_dk d_Live (hr.mono (by decide)) (fun σ => passAt tk σ) (pa_cons (pv 0) (pa_cons (pv 1) pa_nil)))))) (.cons ⟨rfl, by decide, .inl T.x_InvalidBook.gC⟩ (fun a oe cls d pn hz hf => (pss_one (ps_ret (pe_tup (pa_cons pe_str (pa_cons (pe_xf T.xf_InvalidBook T.x_InvalidBook.noN hz hf (pv 2)) pa_nil)))))) (.cons ⟨rfl, by decide, .inl T.x_InvalidRoads.gC⟩ (fun a oe cls d pn hz hf => (pss_one (ps_ret (pe_tup (pa_cons pe_str (pa_cons (pe_xf T.xf_InvalidRoads T.x_InvalidRoads.noN hz hf (pv 2)) pa_nil)))))) (.cons ⟨rfl, by decide, .inl T.x_NotSteady.gC⟩ (fun a oe cls d pn hz hf => (pss_one (ps_ret (pe_tup (pa_cons pe_str (pa_cons (pe_xf T.xf_NotSteady T.x_NotSteady.noN hz hf (pv 2)) pa_nil)))))) .nil))))
    (pss_one (ps_ret (pe_tup (pa_cons pe_str (pa_cons pe_int pa_nil)))))), ?_⟩
    refine ⟨_, rfl, _, rfl, fun x dx hx hdx ndx => ?_⟩
    have s0 : Same H (upd (upd H dx (.own x)) x (.ins c.CL dx [])) := Same.put (Same.new hdx) (by rw [upd_ne (Ne.symm ndx)]; exact hx)
    have ex0 : (upd (upd H dx (.own x)) x (.ins c.CL dx [])) x = some (.ins c.CL dx []) := upd_same
    have edx0 : (upd (upd H dx (.own x)) x (.ins c.CL dx [])) dx = some (.own x) := by rw [upd_ne ndx]; exact upd_same
    generalize upd (upd H dx (.own x)) x (.ins c.CL dx []) = H0 at s0 ex0 edx0 ⊢
    have sb : ∀ {H'}, But x H0 H' → Same H H' := fun {H'} b1 b o e => b1 b o (fun z => by rw [z, hx] at e; cases e) (s0 b o e)
    rcases hc with ⟨hb, rfl⟩ | ⟨xs, hb, hr', rfl⟩ | ⟨as, m, bs, rs, hb, hr', h0, h6, hbk, hno, rfl, rfl⟩
    · refine ⟨x, dx, b, r, rfl, ex0, edx0, .inl ⟨at_, hb.same s0, fun H' d b1 hd e => ?_⟩⟩
      exact ⟨true, T.e11, fun _ a' ha' => ⟨_, rfl, rfl, rfl, d, _, _, rfl, e, rfl, (by show 2 ≤ sizeLine; decide), fun t ht => k t _ (Same.put (sb b1) ht) upd_same⟩, fun z => nomatch z⟩
    · refine ⟨x, dx, b, r, rfl, ex0, edx0, .inr (.inl ⟨xs, at_, hb.same s0, (Same.ks s0).roadsBad hr', fun H' d b1 hd e => ?_⟩)⟩
      exact ⟨false, T.e21, (fun z => nomatch z), fun _ => ⟨true, T.e22, fun _ a' ha' => ⟨_, rfl, rfl, rfl, d, _, _, rfl, e, rfl, (by show 2 ≤ sizeLine; decide), fun t ht => k t _ (Same.put (sb b1) ht) upd_same⟩, fun z => nomatch z⟩⟩
    · refine ⟨x, dx, b, r, rfl, ex0, edx0, .inr (.inr (.inl ⟨as, m, bs, rs, hb.same s0, (Same.ks s0).roadsOk hr', h0, h6, (Same.kt s0).bks hbk, hno, fun H' d b1 hd e => ?_⟩))⟩
      exact ⟨false, T.e31, (fun z => nomatch z), fun _ => ⟨false, T.e32, (fun z => nomatch z), fun _ => ⟨true, T.e33, fun _ a' ha' => ⟨_, rfl, rfl, rfl, d, _, _, rfl, e, rfl, (by show 2 ≤ sizeLine; decide), fun t ht => k t _ (Same.put (sb b1) ht) upd_same⟩, fun z => nomatch z⟩⟩⟩
end
end Ws
end
section
set_option Elab.async false
set_option linter.all false
set_option maxRecDepth 100000
set_option maxHeartbeats 4000000
namespace Ws
open PySem PySem.Spec PyProof.Rows L2
set_option autoImplicit false
/-! K48: what stands while _law_deeds runs. -/
theorem Kt.house {c : Cs} {H H' : Hp} {M : List Addr} {m : Int} {l : Addr} {bs : Bks} (k : Kt c H H') (f : Fr M H H') (n : l ∉ M) (h : HouseAt H m l bs) : HouseAt H' m l bs := by
  obtain ⟨ts, e, p⟩ := h
  exact ⟨ts, f _ _ n e, Paired.map' p fun t p ⟨d, e1, e2⟩ => ⟨d, k.tup e1, k.tab e2⟩⟩
theorem Kt.lotL' {c : Cs} {H H' : Hp} {M : List Addr} {l : Addr} {ss : List (List Int)} (k : Kt c H H') (f : Fr M H H') (n : l ∉ M) (h : LotL H l ss) : LotL H' l ss := by
  obtain ⟨as, e, p⟩ := h
  exact ⟨as, f _ _ n e, k.lots p⟩
theorem Kt.lls {c : Cs} {H H' : Hp} {M : List Addr} (k : Kt c H H') (f : Fr M H H') {as : List Addr} {sss : List (List (List Int))} (h : Paired (fun a x => LotL H a x) as sss) (n : ∀ a ∈ as, a ∉ M) : Paired (fun a x => LotL H' a x) as sss := by
  induction h with
  | nil => exact .nil
  | cons r t ih => exact .cons (k.lotL' f (n _ List.mem_cons_self) r) (ih fun a m => n a (List.mem_cons_of_mem _ m))
theorem LiveAt.kt {c : Cs} {s : Hs} {H H' : Hp} {O : List Addr} {ss : List (List Int)} {el la : List (List (List Int))} (h : LiveAt c s H O ss el la) (k : Kt c H H') (f : ∀ a ∈ O, ∀ o, H a = some o → H' a = some o) : LiveAt c s H' O ss el la := by
  obtain ⟨p, dx, bt, rt, kt, e, l, as, ea, lla, rfl, h⟩ := h
  exact ⟨p, dx, bt, rt, kt, e, l, as, ea, lla, rfl, f _ (by simp) _ h.ins, k.tup h.books, k.bks h.bks, k.lotT h.roads, k.lotT h.kept, h.heard, f _ (by simp) _ h.els, f _ (by simp) _ h.lls, h.ne, k.sts h.ela, k.sts h.lla, h.le, h.ll'⟩
theorem DealAt.nst {c : Cs} {H : Hp} {d l : Addr} (h : DealAt H [d, l]) : ∀ a ∈ [d, l], ∃ o, H a = some o ∧ ¬ Still c o := fun a m => by
  obtain ⟨d', l', s, ns, e, h1, h2, _⟩ := h
  cases e
  simp only [List.mem_cons, List.not_mem_nil, or_false] at m
  rcases m with rfl | rfl
  · exact ⟨_, h1, nst_lst⟩
  · exact ⟨_, h2, nst_lst⟩
structure DI (c : Cs) (s : Hs) (d l hl t : Addr) (H : Hp) (O : List Addr) (pa lt he : Addr) (ps ls : List Addr) (ss : List (List Int)) (el la : List (List (List Int))) (hs : List (List Int)) (pl ll : List (List (List Int))) : Prop where
  deal : DealAt H [d, l]
  live : LiveAt c s H O ss el la
  house : HouseAt H s.m hl s.bs
  roads : LotL H t (s.rs.map pr)
  heard : LotL H he hs
  past : H pa = some (.lst (ps.map V.ref))
  pasts : Paired (fun a x => LotL H a x) ps pl
  later : H lt = some (.lst (ls.map V.ref))
  laters : Paired (fun a x => LotL H a x) ls ll
  out : ∀ a ∈ hl :: t :: he :: (ps ++ ls), a ∉ d :: l :: pa :: lt :: O
  ne : pa ≠ lt
  o1 : ∀ a ∈ O, a ∉ [d, l, pa, lt]
  o2 : pa ∉ [d, l]
  o3 : lt ∉ [d, l]
section
variable {c : Cs} {s : Hs} {d l hl t : Addr} {H H' : Hp} {O O' : List Addr} {pa lt he : Addr} {ps ls : List Addr} {ss hs ss' : List (List Int)} {el la pl ll el' la' : List (List (List Int))}
theorem DI.nst (h : DI c s d l hl t H O pa lt he ps ls ss el la hs pl ll) (n : c.CB ≠ c.CL) : ∀ a ∈ d :: l :: pa :: lt :: O, ∃ o, H a = some o ∧ ¬ Still c o := fun a m => by
  simp only [List.mem_cons] at m
  rcases m with rfl | rfl | rfl | rfl | m
  · exact h.deal.nst _ (by simp)
  · exact h.deal.nst _ (by simp)
  · exact ⟨_, h.past, nst_lst⟩
  · exact ⟨_, h.later, nst_lst⟩
  · exact h.live.nst n _ m
theorem DI.same (h : DI c s d l hl t H O pa lt he ps ls ss el la hs pl ll) (q : Same H H') : DI c s d l hl t H' O pa lt he ps ls ss el la hs pl ll :=
  ⟨h.deal.same q, h.live.same q, h.house.same q, h.roads.same q, h.heard.same q, q _ _ h.past, Paired.map' h.pasts fun _ _ e => e.same q, q _ _ h.later, Paired.map' h.laters fun _ _ e => e.same q, h.out, h.ne, h.o1, h.o2, h.o3⟩
/-- a new list's place is none of these -/
theorem DI.free (h : DI c s d l hl t H O pa lt he ps ls ss el la hs pl ll) (n : c.CB ≠ c.CL) {b : Addr} (hb : H b = none) : b ∉ d :: l :: pa :: lt :: O := fun m => by
  obtain ⟨o, e, _⟩ := h.nst n b m
  rw [hb] at e; cases e
/-- what does not move -/
theorem DI.still (h : DI c s d l hl t H O pa lt he ps ls ss el la hs pl ll) (k : Kt c H H') (f : Fr (d :: l :: pa :: lt :: O) H H') :
    HouseAt H' s.m hl s.bs ∧ LotL H' t (s.rs.map pr) ∧ LotL H' he hs ∧ Paired (fun a x => LotL H' a x) ps pl ∧ Paired (fun a x => LotL H' a x) ls ll :=
  ⟨k.house f (h.out _ (by simp)) h.house, k.lotL' f (h.out _ (by simp)) h.roads, k.lotL' f (h.out _ (by simp)) h.heard, k.lls f h.pasts fun a m => h.out a (by simp [m]), k.lls f h.laters fun a m => h.out a (by simp [m])⟩
theorem DI.draw (h : DI c s d l hl t H O pa lt he ps ls ss el la hs pl ll) (f : Fr [d, l] H H') (e : DealAt H' [d, l]) : DI c s d l hl t H' O pa lt he ps ls ss el la hs pl ll := by
  have k : Kt c H H' := f.kt h.deal.nst
  have f' : Fr (d :: l :: pa :: lt :: O) H H' := fun b o n e => f b o (fun m => n (by simp only [List.mem_cons, List.not_mem_nil, or_false] at m; rcases m with rfl | rfl <;> simp)) e
  obtain ⟨h1, h2, h3, h4, h5⟩ := h.still k f'
  refine ⟨e, h.live.kt k fun a m o eo => f a o (fun z => h.o1 a m ?_) eo, h1, h2, h3, f _ _ h.o2 h.past, h4, f _ _ h.o3 h.later, h5, h.out, h.ne, h.o1, h.o2, h.o3⟩
  simp only [List.mem_cons, List.not_mem_nil, or_false] at z
  rcases z with rfl | rfl <;> simp
theorem DI.go (h : DI c s d l hl t H O pa lt he ps ls ss el la hs pl ll) (n : c.CB ≠ c.CL) (f : Fr O H H') (w : Own H O O') (e : LiveAt c s H' O' ss' el' la') : DI c s d l hl t H' O' pa lt he ps ls ss' el' la' hs pl ll := by
  have k : Kt c H H' := f.kt (h.live.nst n)
  have f' : Fr (d :: l :: pa :: lt :: O) H H' := fun b o n e => f b o (fun m => n (by simp [m])) e
  obtain ⟨h1, h2, h3, h4, h5⟩ := h.still k f'
  have al : ∀ {a : Addr} {o : HO}, a ∉ O → H a = some o → a ∉ O' := fun {a o} na e m => (w a m).elim na fun z => by rw [z] at e; cases e
  have npa : pa ∉ O := fun m => h.o1 _ m (by simp)
  have nlt : lt ∉ O := fun m => h.o1 _ m (by simp)
  have nd : d ∉ O := fun m => h.o1 _ m (by simp)
  have nl : l ∉ O := fun m => h.o1 _ m (by simp)
  obtain ⟨od, ed, _⟩ := h.deal.nst (c := c) d (by simp)
  obtain ⟨ol, el, _⟩ := h.deal.nst (c := c) l (by simp)
  refine ⟨h.deal.fr f nd nl, e, h1, h2, h3, f _ _ npa h.past, h4, f _ _ nlt h.later, h5, fun a m => ?_, h.ne, fun a m z => ?_, h.o2, h.o3⟩
  · have na := h.out a m
    have ha : ∃ o, H a = some o := by
      simp only [List.mem_cons, List.mem_append] at m
      rcases m with rfl | rfl | rfl | m | m
      · obtain ⟨ts, e, _⟩ := h.house; exact ⟨_, e⟩
      · obtain ⟨ts, e, _⟩ := h.roads; exact ⟨_, e⟩
      · obtain ⟨ts, e, _⟩ := h.heard; exact ⟨_, e⟩
      · obtain ⟨i, hi⟩ := List.mem_iff_getElem?.mp m
        obtain ⟨_, _, _, e, _⟩ := Paired.at h.pasts hi
        exact ⟨_, e⟩
      · obtain ⟨i, hi⟩ := List.mem_iff_getElem?.mp m
        obtain ⟨_, _, _, e, _⟩ := Paired.at h.laters hi
        exact ⟨_, e⟩
    obtain ⟨o, eo⟩ := ha
    intro z
    simp only [List.mem_cons] at z na
    rcases z with z | z | z | z | z
    · exact na (.inl z)
    · exact na (.inr (.inl z))
    · exact na (.inr (.inr (.inl z)))
    · exact na (.inr (.inr (.inr (.inl z))))
    · exact al (fun q => na (.inr (.inr (.inr (.inr q))))) eo z
  · simp only [List.mem_cons, List.not_mem_nil, or_false] at z
    rcases z with rfl | rfl | rfl | rfl
    · exact al nd ed m
    · exact al nl el m
    · exact al npa h.past m
    · exact al nlt h.later m
/-- a change of pa's or lt's list -/
theorem DI.chg (h : DI c s d l hl t H O pa lt he ps ls ss el la hs pl ll) (n : c.CB ≠ c.CL) {x : Addr} (hx : x = pa ∨ x = lt) {xs : List V} {ps' ls' : List Addr} {pl' ll' : List (List (List Int))} {he' : Addr} {hs' : List (List Int)}
    (e1 : (upd H x (.lst xs)) pa = some (.lst (ps'.map V.ref))) (e2 : (upd H x (.lst xs)) lt = some (.lst (ls'.map V.ref))) (p1 : Paired (fun a x => LotL H a x) ps' pl') (p2 : Paired (fun a x => LotL H a x) ls' ll') (hh : LotL H he' hs') (o : ∀ a ∈ he' :: (ps' ++ ls'), a ∉ d :: l :: pa :: lt :: O) :
    DI c s d l hl t (upd H x (.lst xs)) O pa lt he' ps' ls' ss el la hs' pl' ll' := by
  have xm : x ∈ d :: l :: pa :: lt :: O := by rcases hx with rfl | rfl <;> simp
  have f : Fr (d :: l :: pa :: lt :: O) H (upd H x (.lst xs)) := Fr.chg (Fr.refl _ _) (.inr xm)
  have k : Kt c H (upd H x (.lst xs)) := f.kt (h.nst n)
  have fx : Fr [x] H (upd H x (.lst xs)) := Fr.chg (Fr.refl _ _) (.inr (by simp))
  obtain ⟨h1, h2, _⟩ := h.still k f
  have nx : ∀ {a}, a ∈ O → a ≠ x := fun {a} m z => h.o1 a m (by rw [z]; rcases hx with rfl | rfl <;> simp)
  refine ⟨h.deal.fr fx (fun z => ?_) (fun z => ?_), h.live.kt k fun a m o eo => by rw [upd_ne (nx m)]; exact eo, h1, h2, k.lotL' f (o _ (by simp)) hh, e1, k.lls f p1 fun a m => o a (by simp [m]), e2, k.lls f p2 fun a m => o a (by simp [m]), fun a m => ?_, h.ne, h.o1, h.o2, h.o3⟩
  · rw [List.mem_singleton] at z
    rcases hx with rfl | rfl
    · exact h.o2 (by rw [← z]; simp)
    · exact h.o3 (by rw [← z]; simp)
  · rw [List.mem_singleton] at z
    rcases hx with rfl | rfl
    · exact h.o2 (by rw [← z]; simp)
    · exact h.o3 (by rw [← z]; simp)
  · simp only [List.mem_cons] at m
    rcases m with rfl | rfl | rfl | m
    · exact h.out _ (by simp)
    · exact h.out _ (by simp)
    · exact o _ (by simp)
    · exact o a (by simp [m])
theorem DI.swap (h : DI c s d l hl t H O pa lt he ps ls ss el la hs pl ll) : DI c s d l hl t H O lt pa he ls ps ss el la hs ll pl := by
  refine ⟨h.deal, h.live, h.house, h.roads, h.heard, h.later, h.laters, h.past, h.pasts, fun a m z => h.out a ?_ ?_, Ne.symm h.ne, fun a m z => h.o1 a m ?_, h.o3, h.o2⟩
  · simp only [List.mem_cons, List.mem_append] at m ⊢
    rcases m with m | m | m | m | m <;> simp [m]
  · simp only [List.mem_cons] at z ⊢
    rcases z with z | z | z | z | z <;> simp [z]
  · simp only [List.mem_cons, List.not_mem_nil, or_false] at z ⊢
    rcases z with z | z | z | z <;> simp [z]
/-- one list goes to lt, the last of pa is heard -/
theorem DI.shiftL {xa : List Addr} {ax bf : Addr} {e : List (List (List Int))} {tt : List (List Int)} (h : DI c s d l hl t H O pa lt he (xa ++ [ax]) ls ss el la hs (e ++ [tt]) ll) (n : c.CB ≠ c.CL) (hb : LotL H bf hs) (nb : bf ∉ d :: l :: pa :: lt :: O) :
    (upd H lt (.lst (ls.map V.ref ++ [.ref bf]))) pa = some (.lst ((xa ++ [ax]).map V.ref)) ∧ DI c s d l hl t (upd (upd H lt (.lst (ls.map V.ref ++ [.ref bf]))) pa (.lst (xa.map V.ref))) O pa lt ax xa (ls ++ [bf]) ss el la tt e (ll ++ [hs]) := by
  obtain ⟨xa', ax', e1, p1, hax⟩ := Paired.snoc h.pasts
  obtain ⟨rfl, e2⟩ := List.append_inj' e1 rfl
  obtain rfl : ax = ax' := by injection e2
  have ea : (upd H lt (.lst (ls.map V.ref ++ [.ref bf]))) pa = some (.lst ((xa ++ [ax]).map V.ref)) := by rw [upd_ne h.ne]; exact h.past
  refine ⟨ea, ?_⟩
  have h1 : DI c s d l hl t (upd H lt (.lst (ls.map V.ref ++ [.ref bf]))) O pa lt he (xa ++ [ax]) (ls ++ [bf]) ss el la hs (e ++ [tt]) (ll ++ [hs]) := by
    refine h.chg n (.inr rfl) ea (by rw [upd_same, List.map_append]; rfl) h.pasts (Paired.app h.laters hb) h.heard fun a m => ?_
    simp only [List.mem_cons, List.mem_append, List.not_mem_nil, or_false] at m
    rcases m with rfl | (m | m) | m | rfl
    · exact h.out _ (by simp)
    · exact h.out _ (by simp [m])
    · exact h.out _ (by simp [m])
    · exact h.out _ (by simp [m])
    · exact nb
  obtain ⟨xa'', ax'', e1, p2, hax2⟩ := Paired.snoc h1.pasts
  obtain ⟨rfl, e2⟩ := List.append_inj' e1 rfl
  obtain rfl : ax = ax'' := by injection e2
  refine h1.chg n (.inl rfl) upd_same (by rw [upd_ne (Ne.symm h.ne)]; exact h1.later) p2 h1.laters hax2 fun a m => ?_
  simp only [List.mem_cons, List.mem_append, List.not_mem_nil, or_false] at m
  rcases m with rfl | m | m | m
  · exact h1.out _ (by simp)
  · exact h1.out _ (by simp [m])
  · exact h1.out _ (by simp [m])
  · exact h1.out _ (by simp [m])
theorem DI.shiftR {xa : List Addr} {ax bf : Addr} {e : List (List (List Int))} {tt : List (List Int)} (h : DI c s d l hl t H O pa lt he ps (xa ++ [ax]) ss el la hs pl (e ++ [tt])) (n : c.CB ≠ c.CL) (hb : LotL H bf hs) (nb : bf ∉ d :: l :: pa :: lt :: O) :
    (upd H pa (.lst (ps.map V.ref ++ [.ref bf]))) lt = some (.lst ((xa ++ [ax]).map V.ref)) ∧ DI c s d l hl t (upd (upd H pa (.lst (ps.map V.ref ++ [.ref bf]))) lt (.lst (xa.map V.ref))) O pa lt ax (ps ++ [bf]) xa ss el la tt (pl ++ [hs]) e := by
  obtain ⟨h1, h2⟩ := h.swap.shiftL n hb fun m => nb (by simp only [List.mem_cons] at m ⊢; rcases m with m | m | m | m | m <;> simp [m])
  exact ⟨h1, h2.swap⟩
/-- a list laid aside stays, and is none of these -/
theorem DI.aside (h : DI c s d l hl t H O pa lt he ps ls ss el la hs pl ll) (n : c.CB ≠ c.CL) {bf : Addr} {x : List (List Int)} (f : Fr O H H') (w : Own H O O') (hb : LotL H bf x) (nb : bf ∉ d :: l :: pa :: lt :: O) : LotL H' bf x ∧ bf ∉ d :: l :: pa :: lt :: O' := by
  have k : Kt c H H' := f.kt (h.live.nst n)
  have nO : bf ∉ O := fun m => nb (by simp [m])
  refine ⟨k.lotL' f nO hb, fun m => ?_⟩
  obtain ⟨_, eb, _⟩ := hb
  simp only [List.mem_cons] at m nb
  rcases m with m | m | m | m | m
  · exact nb (.inl m)
  · exact nb (.inr (.inl m))
  · exact nb (.inr (.inr (.inl m)))
  · exact nb (.inr (.inr (.inr (.inl m))))
  · rcases w bf m with z | z
    · exact nO z
    · rw [eb] at z; cases z
/-- a new list in lt's stead -/
theorem DI.relt (h : DI c s d l hl t H O pa lt he ps ls ss el la hs pl ll) (n : c.CB ≠ c.CL) {l3 : Addr} (hn : H l3 = none) : DI c s d l hl t (upd H l3 (.lst [])) O pa l3 he ps [] ss el la hs pl [] := by
  have q : Same H (upd H l3 (.lst [])) := Same.new hn
  have h1 := h.same q
  have nf := h.free n hn
  have al : ∀ {a : Addr} {o : HO}, H a = some o → a ≠ l3 := fun {a o} e z => by rw [z, hn] at e; cases e
  refine ⟨h1.deal, h1.live, h1.house, h1.roads, h1.heard, h1.past, h1.pasts, upd_same, .nil, fun a m z => ?_, fun z => nf (by simp [z]), fun a m z => ?_, h.o2, fun z => nf (by simp only [List.mem_cons, List.not_mem_nil, or_false] at z ⊢; rcases z with z | z <;> simp [z])⟩
  · have na : a ≠ l3 := by
      simp only [List.mem_cons, List.append_nil] at m
      rcases m with rfl | rfl | rfl | m
      · obtain ⟨ts, e, _⟩ := h.house; exact al e
      · obtain ⟨ts, e, _⟩ := h.roads; exact al e
      · obtain ⟨ts, e, _⟩ := h.heard; exact al e
      · obtain ⟨i, hi⟩ := List.mem_iff_getElem?.mp m
        obtain ⟨_, _, _, e, _⟩ := Paired.at h.pasts hi
        exact al e
    refine h.out a ?_ ?_
    · simp only [List.mem_cons, List.mem_append, List.append_nil] at m ⊢
      rcases m with m | m | m | m <;> simp [m]
    · simp only [List.mem_cons] at z ⊢
      rcases z with z | z | z | z | z
      · simp [z]
      · simp [z]
      · simp [z]
      · exact absurd z na
      · simp [z]
  · simp only [List.mem_cons, List.not_mem_nil, or_false] at z
    rcases z with z | z | z | z
    · exact h.o1 a m (by simp [z])
    · exact h.o1 a m (by simp [z])
    · exact h.o1 a m (by simp [z])
    · rw [z] at m; exact nf (by simp [m])
end
end Ws
end
section
set_option Elab.async false
set_option linter.all false
set_option maxRecDepth 100000
set_option maxHeartbeats 4000000
namespace Ws
open PySem PySem.Spec PyProof.Rows L2
set_option autoImplicit false
/-! K49: _law_deeds. -/
theorem seq_post {t u : TS} {D : Ends} {σ : L2.St} {H : Hp} (Post : L2.St → Hp → Prop) (h1 : ∀ σ' H', Post σ' H' → u D σ' H') (h2 : ∀ R : L2.St → Hp → Prop, (∀ σ' H', Post σ' H' → R σ' H') → t { D with nx := R } σ H) : tSeq t u D σ H := h2 (u D) h1
theorem if_post {c : TT} {t u : TS} {D : Ends} {σ : L2.St} {H : Hp} (Post : Bool → Hp → Prop) (hc : ∀ Qb : Bool → Hp → Prop, (∀ b G, Post b G → Qb b G) → c σ H Qb) (ht : ∀ G, Post true G → t D σ G) (hf : ∀ G, Post false G → u D σ G) : tIfS c t u D σ H :=
  hc _ fun b G p => by
    cases b with
    | true => exact iteT (ht G p)
    | false => exact iteF (hf G p)
theorem uni_perm {m : Int} {s x : List Int} (hs : LotOk m s) (hx : LotOk m x) : (uni m s x).Perm (s ++ x.filter fun z => !decide (z ∈ s)) := by
  have hnd : (s ++ x.filter fun z => !decide (z ∈ s)).Nodup := by
    rw [List.nodup_append]
    refine ⟨hs.1.nodup, (asc_filter _ hx.1).nodup, fun a ha b hb e => ?_⟩
    rw [List.mem_filter] at hb
    rw [← e] at hb
    simp [ha] at hb
  refine (List.perm_ext_iff_of_nodup (lot_uni m s x).1.nodup hnd).mpr fun z => ?_
  rw [List.mem_append, List.mem_filter, mem_uni hs hx]
  constructor
  · rintro (h | h)
    · exact .inl h
    · by_cases q : z ∈ s
      · exact .inl q
      · exact .inr ⟨h, by simp [q]⟩
  · rintro (h | ⟨h, _⟩)
    · exact .inl h
    · exact .inr h
/-- within a turn -/
def TI (c : Cs) (s : Hs) (d l hl t p : Addr) (O0 : List Addr) (H H' : Hp) (pa lt he : Addr) (n : Nat) (hs : List (List Int)) (pl ll : List (List (List Int))) (ss : List (List Int)) (el la : List (List (List Int))) : Prop :=
  ∃ O ps ls, Fr (d :: l :: O0) H H' ∧ Own H O0 O ∧ O.head? = some p ∧ (H pa = none ∨ pa ∈ O0) ∧ (H lt = none ∨ lt ∈ O0) ∧ DI c s d l hl t H' O pa lt he ps ls ss el la hs pl ll ∧ el.length ≤ n ∧ la.length ≤ n
section
variable {c : Cs} {s : Hs} {d l hl t p : Addr} {O0 : List Addr} {H H' H2 : Hp} {pa lt he : Addr} {n : Nat} {hs ss : List (List Int)} {pl ll el la : List (List (List Int))}
theorem TI.same (h : TI c s d l hl t p O0 H H' pa lt he n hs pl ll ss el la) (q : Same H' H2) : TI c s d l hl t p O0 H H2 pa lt he n hs pl ll ss el la := by
  obtain ⟨O, ps, ls, f, w, o, z1, z2, D, b1, b2⟩ := h
  exact ⟨O, ps, ls, f.same q, w, o, z1, z2, D.same q, b1, b2⟩
theorem TI.draw (h : TI c s d l hl t p O0 H H' pa lt he n hs pl ll ss el la) (q : Fr [d, l] H' H2) (e : DealAt H2 [d, l]) : TI c s d l hl t p O0 H H2 pa lt he n hs pl ll ss el la := by
  obtain ⟨O, ps, ls, f, w, o, z1, z2, D, b1, b2⟩ := h
  refine ⟨O, ps, ls, f.trans fun b o' nb eb => q b o' (fun m => nb ?_) eb, w, o, z1, z2, D.draw q e, b1, b2⟩
  simp only [List.mem_cons, List.not_mem_nil, or_false] at m
  rcases m with rfl | rfl <;> simp
theorem TI.mono {k : Nat} (h : TI c s d l hl t p O0 H H' pa lt he n hs pl ll ss el la) (q : n ≤ k) : TI c s d l hl t p O0 H H' pa lt he k hs pl ll ss el la := by
  obtain ⟨O, ps, ls, f, w, o, z1, z2, D, b1, b2⟩ := h
  exact ⟨O, ps, ls, f, w, o, z1, z2, D, Nat.le_trans b1 q, Nat.le_trans b2 q⟩
theorem TI.deal (h : TI c s d l hl t p O0 H H' pa lt he n hs pl ll ss el la) : DealAt H' [d, l] := by
  obtain ⟨O, ps, ls, f, w, o, z1, z2, D, b1, b2⟩ := h
  exact D.deal
end
theorem ti_step {d l : Addr} {O0 O1 O2 : List Addr} {H H1 H2 : Hp} (f1 : Fr (d :: l :: O0) H H1) (w1 : Own H O0 O1) (dl : DealAt H1 [d, l]) (f2 : Fr O1 H1 H2) (w2 : Own H1 O1 O2) : Fr (d :: l :: O0) H H2 ∧ Own H O0 O2 := by
  refine ⟨fun b o nb eb => f2 b o (fun m => ?_) (f1 b o nb eb), fun b m => ?_⟩
  · rcases w1 b m with z | z
    · exact nb (by simp [z])
    · rw [eb] at z; cases z
  · rcases w2 b m with z | z
    · exact w1 b z
    · by_cases q : b ∈ O0
      · exact .inl q
      · refine .inr (f1.free (fun m => ?_) z)
        simp only [List.mem_cons] at m
        rcases m with m | m | m
        · exact dl.free z (by simp [m])
        · exact dl.free z (by simp [m])
        · exact q m
theorem lc_fmR0 {H1 : Hp} {D : Addr} {σ : L2.St} {i : Nat} {tt : TT} {te : TE} {Qd : Hp → Prop} (hi : Int) (b : Int → Bool) (R : Int → V → Hp → Prop) (hR : Stb R) (hD : H1 D = none) (hlen : (rng 0 hi).length ≤ 1000)
    (ht : ∀ x ∈ rng 0 hi, ∀ H', Same H1 H' → ∀ Rb : Bool → Hp → Prop, (∀ H'', Same H' H'' → Rb (b x) H'') → tt ((wipe σ [i]).set i (some (V.int x))) H' Rb)
    (he : ∀ x ∈ rng 0 hi, b x = true → ∀ H', Same H1 H' → ∀ Rq : VK, (∀ y H'', Same H' H'' → R x y H'' → Rq y H'') → te ((wipe σ [i]).set i (some (V.int x))) H' Rq)
    (hd : ∀ ys H', Same H1 H' → H' D = some (.lst ys) → Paired (fun x y => R x y H') ((rng 0 hi).filter b) ys → Qd H') :
    ∃ W : Nat → Nat → Hp → Prop, (∃ m, W 0 m (upd H1 D (.lst []))) ∧ ∀ i' m H, W i' m H →
      ((Itr 0 hi.toNat).stop i' H ∧ Qd H) ∨ ((Itr 0 hi.toNat).go i' H ∧ ∃ Nx : Hp → Prop, (∀ H', Nx H' → ∃ m', m' < m ∧ W (i' + 1) m' H') ∧ ∀ x H', (Itr 0 hi.toNat).yld i' H x H' → gName i x (wipe σ [i]) H' fun σ2 H2 => wipe σ2 [i] = wipe σ [i] ∧ tt σ2 H2 fun b H3 =>
        if b = true then te σ2 H3 fun y H4 => ∃ acc, H4 D = some (.lst acc) ∧ acc.length < sizeLine ∧ Nx (upd H4 D (.lst (acc ++ [y]))) else Nx H3) := by
  have q := lc_fmR (te := te) (tt := tt) (σ := σ) (i := i) (Qd := Qd) 0 hi b R hR hD hlen ht he hd
  rw [Int.sub_zero] at q
  exact q
theorem cut_all (l : List V) : cutV l none none = l := by
  unfold cutV
  rw [HT.sIx_none, HT.sIx_none]
  show (l.drop 0).take (l.length - 0) = _
  rw [List.drop_zero, Nat.sub_zero, List.take_length]
theorem lots_rep {H : Hp} {e : Addr} (h : TupI H e []) : ∀ bs : Bks, Lots H (List.replicate bs.length e) (bs.map fun _ => [])
  | [] => .nil
  | _ :: r => by
    rw [List.length_cons, List.replicate_succ]
    exact .cons h (lots_rep h r)
theorem rep_flat (n : Nat) (e : Addr) : (List.replicate n [V.ref e]).flatten = (List.replicate n e).map V.ref := by
  induction n with
  | zero => rfl
  | succ n ih => rw [List.replicate_succ, List.flatten_cons, ih, List.replicate_succ]; rfl
section
variable {P : Program} {w : World} {K : PySem.W.Frag} {mg : Str → Option Value} {base : Heap} {c : Cs} {f1 f2 f3 f4 : Addr} {t9 t6 : Tok}
theorem ok__law_deeds (T : Txt P K mg c.CB c.CL c.C1 c.C2 c.C3 c.C4 f1 f2 f3 f4 t9 t6) (d_Live_come : Dm P w K mg base (L2.CX P w) 6 c.CL "come" ["self", "hand", "thing"] ["hand", "thing"] (sp_Live_come c)) (d_Live_redo_deed : Dm P w K mg base CX0 1 c.CL "redo_deed" ["self"] [] (sp_Live_redo_deed c)) (d_Live_send : Dm P w K mg base (L2.CX P w) 6 c.CL "send" ["self", "hand", "to"] ["hand", "to"] (sp_Live_send c)) (d_Live_undo_deed : Dm P w K mg base CX0 1 c.CL "undo_deed" ["self"] [] (sp_Live_undo_deed c)) (d__law_any : Dn P w K mg base CX0 1 "_law_any" ["_law_deal", "_law_bound"] (sp__law_any c)) (d__law_bad : Dn P w K mg base CX0 3 "_law_bad" ["_law_deal", "_law_many", "_law_hands", "_law_roads"] (sp__law_bad c)) (d__law_kept : Dn P w K mg base CX0 3 "_law_kept" ["_law_house_here", "_law_roads", "_law_hand", "_law_heard"] (sp__law_kept c)) (d__law_of : Dn P w K mg base CX0 2 "_law_of" ["_law_deal", "_law_some"] (sp__law_of c)) (d__law_refused : Dn P w K mg base CX0 7 "_law_refused" ["_law_live", "_law_word", "_law_values"] (sp__law_refused c)) (d__law_truth : Dn P w K mg base CX0 1 "_law_truth" ["_law_value", "_law_due"] (sp__law_truth c)) (d__law_wrong : Dn P w K mg base CX0 6 "_law_wrong" ["_law_live", "_law_house_here", "_law_roads", "_law_heard"] (sp__law_wrong c)) {f : Addr} {fd : FuncData} (F : Fun K "_law_deeds" "_law_deeds" s__law_deeds f fd) : FnOk P w K mg base CX0 8 f fd ["_law_deal", "_law_live", "_law_house_here", "_law_roads", "_law_many"] (sp__law_deeds c) := by
  refine F.ok sc__law_deeds (fun vs H Q E h => ?_) (fun cdv A outer s H vs Q E hr h => ?_)
  · obtain ⟨d, l, p, hl, t, s0, O0, rfl, hD, hO, hL, hok, hh, ht, hm3, hdis, nhl, nt, k⟩ := h
    rfl
  · obtain ⟨d, l, p, hl, t, s0, O0, rfl, hD, hO, hL, hok, hh, ht, hm3, hdis, nhl, nt, k⟩ := h
    refine ⟨_, (pss_cons (ps_asg (pe_tup (pa_cons (pe_op op_rep (pe_lst (pa_cons (pe_tup pa_nil) pa_nil)) (pe_callB (call_lenA (K := K) rfl) (by rfl) T.g_len (by decide +kernel) (pa_cons (pv 2) pa_nil))) (pa_cons (pe_lst pa_nil) (pa_cons (pe_lst pa_nil) pa_nil)))) (pg_tupK (K := K) rfl rfl (pgs_cons (pg_name (i := 5) sc__law_deeds.nd rfl (Or.inr rfl)) (pgs_cons (pg_name (i := 6) sc__law_deeds.nd rfl (Or.inl rfl)) (pgs_cons (pg_name (i := 7) sc__law_deeds.nd rfl (Or.inl rfl)) pgs_nil)))))
    (pss_cons (ps_for PassesOwn.never rfl (pi_range1 rfl T.g_range (pa_cons (pe_op op_add pe_int (pe_dn d__law_any (hr.mono (by decide)) pA0 (pa_cons (pv 0) (pa_cons pe_int pa_nil)))) pa_nil)) (pg_name (i := 8) sc__law_deeds.nd rfl (Or.inl rfl))
    (pss_cons (ps_par (i := 9) (j := 10) (by rfl) sc__law_deeds.nd rfl rfl (by decide) rfl rfl (pa_cons (pe_dn d__law_any (hr.mono (by decide)) pA0 (pa_cons (pv 0) (pa_cons pe_int pa_nil))) (pa_cons (pe_callTy (call_listA (K := K) rfl) (by rfl) T.g_list (by decide +kernel) (pa_cons (pv 5) pa_nil)) pa_nil)) (by rfl))
    (pss_cons (ps_if (pt_cmpR op_eq (pv 9) pe_int (nomark _))
    (pss_cons (ps_set (i := 11) sc__law_deeds.nd rfl (Or.inl rfl) (pe_dn d__law_bad (hr.mono (by decide)) pA0 (pa_cons (pv 0) (pa_cons (pv 4) (pa_cons (pe_callB (call_lenA (K := K) rfl) (by rfl) T.g_len (by decide +kernel) (pa_cons (pv 2) pa_nil)) (pa_cons (pv 3) pa_nil))))))
    (pss_one (ps_if (pt_cmpR op_ne (pe_dn d__law_refused (hr.mono (by decide)) pA0 (pa_cons (pv 1) (pa_cons (pe_ix (ix_A (K := K) rfl) (pv 11) pe_int (fun _ _ => rfl)) (pa_cons (pe_ix (ix_A (K := K) rfl) (pv 11) pe_int (fun _ _ => rfl)) pa_nil)))) (pe_ix (ix_A (K := K) rfl) (pv 11) pe_int (fun _ _ => rfl)) (nomark _))
    (pss_one (ps_ret (pe_tup (pa_cons pe_bl (pa_cons (pv 5) pa_nil)))))
    pss_nil)))
    (pss_one (ps_if (PW.pt (pw_or (pt_cmpR op_eq (pv 9) pe_int (nomark _)) (pw_or1 (pt_cmpR op_eq (pv 9) pe_int (nomark _)))))
    (pss_cons (ps_set (i := 12) sc__law_deeds.nd rfl (Or.inl rfl) (pe_ifExp (pt_cmpR op_eq (pv 9) pe_int (nomark _)) (pv 6) (pv 7)))
    (pss_cons (ps_if (pt_not (pt_val (pe_dn d__law_truth (hr.mono (by decide)) pA0 (pa_cons (pe_ifExp (pt_cmpR op_eq (pv 9) pe_int (nomark _)) (pe_dm0 d_Live_undo_deed (pv 1) T.clL (hr.mono (by decide)) pA0) (pe_dm0 d_Live_redo_deed (pv 1) T.clL (hr.mono (by decide)) pA0)) (pa_cons (pe_cmpR (op_neNil (un0 hr)) (pv 12) (pe_lst pa_nil) (nomark _)) pa_nil)))))
    (pss_one (ps_ret (pe_tup (pa_cons pe_bl (pa_cons (pv 5) pa_nil)))))
    pss_nil)
    (pss_one (ps_if (pt_cmpR (op_neNil (un0 hr)) (pv 12) (pe_lst pa_nil) (nomark _))
    (pss_cons (ps_set (i := 13) sc__law_deeds.nd rfl (Or.inl rfl) (pe_ifExp (pt_cmpR op_eq (pv 9) pe_int (nomark _)) (pv 7) (pv 6)))
    (pss_cons (ps_expr (pe_bm PySem.F.plainAttrs_list PySem.F.slot_list_append PySem.F.type_list_append mt_append (pv 13) (pa_cons (pv 10) pa_nil)))
    (pss_one (ps_set (i := 5) sc__law_deeds.nd rfl (Or.inr rfl) (pe_bm0 PySem.F.plainAttrs_list PySem.F.slot_list_pop PySem.F.type_list_pop mt_pop (pv 12))))))
    pss_nil))))
    (pss_cons (ps_asg (pe_tup (pa_cons (pe_dn d__law_any (hr.mono (by decide)) pA0 (pa_cons (pv 0) (pa_cons (pe_callB (call_lenA (K := K) rfl) (by rfl) T.g_len (by decide +kernel) (pa_cons (pv 2) pa_nil)) pa_nil))) (pa_cons (pe_dn d__law_any (hr.mono (by decide)) pA0 (pa_cons (pv 0) (pa_cons (pe_callB (call_lenA (K := K) rfl) (by rfl) T.g_len (by decide +kernel) (pa_cons (pv 2) pa_nil)) pa_nil))) (pa_cons (pe_tup (pa_cons (pe_dn d__law_any (hr.mono (by decide)) pA0 (pa_cons (pv 0) (pa_cons (pv 4) pa_nil))) pa_nil)) pa_nil)))) (pg_tupK (K := K) rfl rfl (pgs_cons (pg_name (i := 14) sc__law_deeds.nd rfl (Or.inr rfl)) (pgs_cons (pg_name (i := 15) sc__law_deeds.nd rfl (Or.inl rfl)) (pgs_cons (pg_name (i := 16) sc__law_deeds.nd rfl (Or.inr rfl)) pgs_nil)))))
    (pss_cons (ps_if (PW.pt (pw_and (pt_cmpR op_gt (pv 9) pe_int (nomark _)) (pw_and1 (pt_cmpR (op_neNil (un0 hr)) (pv 3) (pe_lst pa_nil) (nomark _)))))
    (pss_cons (ps_asg (pe_dn d__law_of (hr.mono (by decide)) pA0 (pa_cons (pv 0) (pa_cons (pv 3) pa_nil))) (pg_tupK (K := K) rfl rfl (pgs_cons (pg_name (i := 15) sc__law_deeds.nd rfl (Or.inl rfl)) (pgs_cons (pg_name (i := 14) sc__law_deeds.nd rfl (Or.inr rfl)) pgs_nil))))
    (pss_cons (ps_set (i := 16) sc__law_deeds.nd rfl (Or.inr rfl) (pe_ix (ix_A (K := K) rfl) (pv 5) (pv 15) (fun _ _ => rfl)))
    (pss_cons (ps_set (i := 18) sc__law_deeds.nd rfl (Or.inl rfl) (pe_op (op_catAK (K := K) rfl) (pe_ix (ix_A (K := K) rfl) (pe_fldK (K := K) rfl (pv 1)) (pv 14) (fun _ _ => rfl)) (pe_callTy (call_tupleA (K := K) rfl) (by rfl) T.g_tuple (by decide +kernel) (pa_cons (pe_lc (own := [("_law_thing", 17)]) (g := (gName 17)) rfl sc__law_deeds.nd (pi_tupK (K := K) rfl (pe_ix (ix_A (K := K) rfl) (pe_fldK (K := K) rfl (pv 1)) (pv 15) (fun _ _ => rfl))) (blkOk_by (N := ["_law_deal", "_law_live", "_law_house_here", "_law_roads", "_law_many", "_law_heard", "_law_past", "_law_later", "_law_turn", "_law_kind", "_law_before", "_law_bad_here", "_law_some", "_law_aim", "_law_to", "_law_hand", "_law_more", "_law_thing", "_law_had", "_law_told", "_law_kept_here"]) (sc := defScope s__law_deeds) (by decide +kernel)) (fun _ _ _ _ _ => (pg_name (i := 17) sc__law_deeds.nd rfl (Or.inl rfl))) (fun _ _ _ _ _ => (pts_one (pt_cmpR (op_notInK (K := K) rfl) (pv 17) (pe_ix (ix_A (K := K) rfl) (pe_fldK (K := K) rfl (pv 1)) (pv 14) (fun _ _ => rfl)) (by rfl)))) (fun _ _ _ _ _ => (pv 17))) pa_nil))))
    (pss_one (ps_set (i := 19) sc__law_deeds.nd rfl (Or.inl rfl) (pe_dmK d_Live_send (pv 1) T.clL (hr.mono (by decide)) (pk_cons (pv 15) (pk_cons (pv 14) pk_nil))))))))
    (pss_cons (ps_set (i := 18) sc__law_deeds.nd rfl (Or.inl rfl) (pe_op (op_catAK (K := K) rfl) (pe_ix (ix_A (K := K) rfl) (pe_fldK (K := K) rfl (pv 1)) (pv 14) (fun _ _ => rfl)) (pe_callTy (call_tupleA (K := K) rfl) (by rfl) T.g_tuple (by decide +kernel) (pa_cons (pe_lc (own := [("_law_thing", 17)]) (g := (gName 17)) rfl sc__law_deeds.nd (pi_tupK (K := K) rfl (pv 16)) (blkOk_by (N := ["_law_deal", "_law_live", "_law_house_here", "_law_roads", "_law_many", "_law_heard", "_law_past", "_law_later", "_law_turn", "_law_kind", "_law_before", "_law_bad_here", "_law_some", "_law_aim", "_law_to", "_law_hand", "_law_more", "_law_thing", "_law_had", "_law_told", "_law_kept_here"]) (sc := defScope s__law_deeds) (by decide +kernel)) (fun _ _ _ _ _ => (pg_name (i := 17) sc__law_deeds.nd rfl (Or.inl rfl))) (fun _ _ _ _ _ => (pts_one (pt_cmpR (op_notInK (K := K) rfl) (pv 17) (pe_ix (ix_A (K := K) rfl) (pe_fldK (K := K) rfl (pv 1)) (pv 14) (fun _ _ => rfl)) (by rfl)))) (fun _ _ _ _ _ => (pv 17))) pa_nil))))
    (pss_one (ps_set (i := 19) sc__law_deeds.nd rfl (Or.inl rfl) (pe_dmK d_Live_come (pv 1) T.clL (hr.mono (by decide)) (pk_cons (pv 14) (pk_cons (pe_ix (ix_A (K := K) rfl) (pv 16) pe_int (fun _ _ => rfl)) pk_nil)))))))
    (pss_cons (ps_set (i := 5) sc__law_deeds.nd rfl (Or.inr rfl) (pe_slice sl_list (pv 5) po_none po_none))
    (pss_cons (ps_asg (pe_callTy (call_tupleA (K := K) rfl) (by rfl) T.g_tuple (by decide +kernel) (pa_cons (pe_lc (own := [("_law_thing", 17)]) (g := (gName 17)) rfl sc__law_deeds.nd (pi_range1 rfl T.g_range (pa_cons (pv 4) pa_nil)) (blkOk_by (N := ["_law_deal", "_law_live", "_law_house_here", "_law_roads", "_law_many", "_law_heard", "_law_past", "_law_later", "_law_turn", "_law_kind", "_law_before", "_law_bad_here", "_law_some", "_law_aim", "_law_to", "_law_hand", "_law_more", "_law_thing", "_law_had", "_law_told", "_law_kept_here"]) (sc := defScope s__law_deeds) (by decide +kernel)) (fun _ _ _ _ _ => (pg_name (i := 17) sc__law_deeds.nd rfl (Or.inl rfl))) (fun _ _ _ _ _ => (pts_one (PW.pt (pw_or (pt_cmpR (op_inK (K := K) rfl) (pv 17) (pe_ix (ix_A (K := K) rfl) (pv 5) (pv 14) (fun _ _ => rfl)) (by rfl)) (pw_or1 (pt_cmpR (op_inK (K := K) rfl) (pv 17) (pv 16) (by rfl))))))) (fun _ _ _ _ _ => (pv 17))) pa_nil)) (pg_sub (pv 5) (pv 14) set_list))
    (pss_cons (ps_set (i := 20) sc__law_deeds.nd rfl (Or.inr rfl) (pe_dn d__law_kept (hr.mono (by decide)) pA0 (pa_cons (pv 2) (pa_cons (pv 3) (pa_cons (pv 14) (pa_cons (pe_ix (ix_A (K := K) rfl) (pv 5) (pv 14) (fun _ _ => rfl)) pa_nil))))))
    (pss_cons (ps_if (pt_cmpR (op_neD hr.units) (pv 19) (pe_callTy (call_tupleA (K := K) rfl) (by rfl) T.g_tuple (by decide +kernel) (pa_cons (pe_lc (own := [("_law_thing", 17)]) (g := (gName 17)) rfl sc__law_deeds.nd (pi_listK (K := K) rfl (pe_callB cr_sortedTI (by rfl) T.g_sorted (by decide +kernel) (pa_cons (pv 18) pa_nil))) (blkOk_by (N := ["_law_deal", "_law_live", "_law_house_here", "_law_roads", "_law_many", "_law_heard", "_law_past", "_law_later", "_law_turn", "_law_kind", "_law_before", "_law_bad_here", "_law_some", "_law_aim", "_law_to", "_law_hand", "_law_more", "_law_thing", "_law_had", "_law_told", "_law_kept_here"]) (sc := defScope s__law_deeds) (by decide +kernel)) (fun _ _ _ _ _ => (pg_name (i := 17) sc__law_deeds.nd rfl (Or.inl rfl))) (fun _ _ _ _ _ => (pts_one (pt_cmpR (op_notInK (K := K) rfl) (pv 17) (pv 20) (by rfl)))) (fun _ _ _ _ _ => (pe_tup (pa_cons (pv 14) (pa_cons (pv 17) pa_nil))))) pa_nil)) (nomark _))
    (pss_one (ps_ret (pe_tup (pa_cons pe_bl (pa_cons (pv 5) pa_nil)))))
    pss_nil)
    (pss_cons (ps_expr (pe_bm PySem.F.plainAttrs_list PySem.F.slot_list_append PySem.F.type_list_append mt_append (pv 6) (pa_cons (pv 10) pa_nil)))
    (pss_one (ps_set (i := 7) sc__law_deeds.nd rfl (Or.inl rfl) (pe_lst pa_nil)))))))))))))
    (pss_one (ps_if (pt_val (pe_dn d__law_wrong (hr.mono (by decide)) pA0 (pa_cons (pv 1) (pa_cons (pv 2) (pa_cons (pv 3) (pa_cons (pv 5) pa_nil))))))
    (pss_one (ps_ret (pe_tup (pa_cons pe_bl (pa_cons (pv 5) pa_nil)))))
    pss_nil)))))
    (pss_one (ps_ret (pe_tup (pa_cons pe_bl (pa_cons (pv 5) pa_nil))))))), ?_⟩
    have hnn : s0.n = (s0.bs.length : Int) := rfl
    have hn1 := hok.n1
    have hn4 := hok.rds.1
    have hm0 := hok.m0
    have hm6 := hok.m6
    have hh0 := hh
    obtain ⟨hts, hhl, hent⟩ := hh
    have hhl' := Paired.len' hent
    refine ⟨Nat.zero_le _, fun e0 he0 => ⟨(by show 1 ≤ sizeLine; decide), fun l0 hl0 => ?_⟩⟩
    have s1 : Same H (upd H e0 (.tup [])) := Same.new he0
    have s2 : Same (upd H e0 (.tup [])) (upd (upd H e0 (.tup [])) l0 (.lst [.ref e0])) := Same.new hl0
    have ee2 := s2 _ _ (upd_same (H := H) (a := e0) (o := .tup []))
    have el2 : (upd (upd H e0 (.tup [])) l0 (.lst [.ref e0])) l0 = some (.lst [.ref e0]) := upd_same
    have S2 := Same.trans s1 s2
    generalize upd (upd H e0 (.tup [])) l0 (.lst [.ref e0]) = H2 at s2 ee2 el2 S2 ⊢
    refine ⟨_, rfl, hl, _, rfl, .inl (SqL.of (S2 _ _ hhl)), l0, _, [.ref e0], rfl, rfl, el2, by rw [List.length_map]; omega, by rw [List.length_map]; omega, by rw [List.length_map]; exact small_k (by simp; omega), fun he hhe => ?_⟩
    have s3 : Same H2 (upd H2 he (.lst (List.replicate (((hts.map V.ref).length : Nat) : Int).toNat [V.ref e0]).flatten)) := Same.new hhe
    have eh3 : LotL (upd H2 he (.lst (List.replicate (((hts.map V.ref).length : Nat) : Int).toNat [V.ref e0]).flatten)) he (s0.bs.map fun _ => []) := by
      refine ⟨List.replicate s0.bs.length e0, by rw [upd_same, Int.toNat_natCast, List.length_map, hhl', rep_flat], lots_rep (s3 _ _ ee2) s0.bs⟩
    have hhe0 : H he = none := Same.free S2 hhe
    have S3 := S2.trans s3
    generalize upd H2 he (.lst (List.replicate (((hts.map V.ref).length : Nat) : Int).toNat [V.ref e0]).flatten) = H3 at s3 eh3 S3 ⊢
    refine ⟨Nat.zero_le _, fun pa hpa => ⟨Nat.zero_le _, fun lt hlt => ⟨(by show 3 ≤ sizeLine; decide), fun q hq => ?_⟩⟩⟩
    have npl : lt ≠ pa := fun z => by rw [z, upd_same] at hlt; cases hlt
    have s4 : Same H3 (upd H3 pa (.lst [])) := Same.new hpa
    have s5 : Same (upd H3 pa (.lst [])) (upd (upd H3 pa (.lst [])) lt (.lst [])) := Same.new hlt
    have s6 := Same.new (o := .tup [.ref he, .ref pa, .ref lt]) hq
    have ep6 := s6 _ _ (s5 _ _ (upd_same (H := H3) (a := pa) (o := .lst [])))
    have el6 := s6 _ _ (upd_same (H := upd H3 pa (.lst [])) (a := lt) (o := .lst []))
    have eq6 : (upd (upd (upd H3 pa (.lst [])) lt (.lst [])) q (.tup [.ref he, .ref pa, .ref lt])) q = some (.tup [.ref he, .ref pa, .ref lt]) := upd_same
    have S36 := (Same.trans s4 s5).trans s6
    have S6 := S3.trans S36
    have hlt3 : H3 lt = none := Same.free s4 hlt
    have hpa0 : H pa = none := Same.free S3 hpa
    have hlt0 : H lt = none := Same.free S3 hlt3
    generalize upd (upd (upd H3 pa (.lst [])) lt (.lst [])) q (.tup [.ref he, .ref pa, .ref lt]) = H6 at s6 ep6 el6 eq6 S36 S6 ⊢
    have hfree : ∀ {b}, H b = none → b ∉ d :: l :: O0 := fun {b} hb m => by
      simp only [List.mem_cons] at m
      rcases m with rfl | rfl | m
      · exact hD.free hb (by simp)
      · exact hD.free hb (by simp)
      · exact hL.alive b m hb
    have nhe3 : he ≠ pa ∧ he ≠ lt := by
      obtain ⟨es, e1, _⟩ := eh3
      exact ⟨fun z => (by rw [z] at e1; have e2 := s4 _ _ e1; rw [hpa] at e1; cases e1), fun z => (by rw [z, hlt3] at e1; cases e1)⟩
    have big : ∀ {b}, b ∉ d :: l :: O0 → b ≠ pa → b ≠ lt → b ∉ d :: l :: pa :: lt :: O0 := fun {b} h1 h2 h3 m => by
      simp only [List.mem_cons] at m h1
      rcases m with m | m | m | m | m
      · exact h1 (.inl m)
      · exact h1 (.inr (.inl m))
      · exact h2 m
      · exact h3 m
      · exact h1 (.inr (.inr m))
    have T0 : TI c s0 d l hl t p O0 H H6 pa lt he 0 (s0.bs.map fun _ => []) [] [] (s0.bs.map fun _ => []) [] [] := by
      refine ⟨O0, [], [], Same.fr _ S6, fun b m => .inl m, hO, .inl hpa0, .inl hlt0, ?_, Nat.le_refl _, Nat.le_refl _⟩
      refine ⟨hD.same S6, hL.same S6, hh0.same S6, ht.same S6, eh3.same S36, ep6, .nil, el6, .nil, fun a m => ?_, Ne.symm npl, fun a m z => ?_, fun m => hD.free hpa0 m, fun m => hD.free hlt0 m⟩
      · simp only [List.mem_cons, List.append_nil, List.not_mem_nil, or_false] at m
        rcases m with rfl | rfl | rfl
        · exact big nhl (fun z => by rw [z, hpa0] at hhl; cases hhl) (fun z => by rw [z, hlt0] at hhl; cases hhl)
        · obtain ⟨ts, e1, _⟩ := ht
          exact big nt (fun z => by rw [z, hpa0] at e1; cases e1) (fun z => by rw [z, hlt0] at e1; cases e1)
        · exact big (hfree hhe0) nhe3.1 nhe3.2
      · simp only [List.mem_cons, List.not_mem_nil, or_false] at z
        rcases z with rfl | rfl | rfl | rfl
        · exact hdis _ m (by simp)
        · exact hdis _ m (by simp)
        · exact hL.alive _ m hpa0
        · exact hL.alive _ m hlt0
    clear S36 s6 s5 s4 S3 s3 S2 s2 ee2 el2
    refine ⟨q, _, rfl, SqT.of eq6, rfl, _, _, rfl, _, _, rfl, _, _, rfl, rfl, ?_⟩
    refine ⟨_, rfl, d, l, 17, rfl, T0.deal, by omega, by omega, fun r17 H7 fr7 hD7 h17 h17' => ?_⟩
    have T7 := T0.draw fr7 hD7
    refine ⟨_, _, rfl, rfl, 6 + r17, rfl, by omega, by omega, for_range (lo := 0) (n := (6 + r17).toNat) (fun i σ H' => ∃ (he lt : Addr) (v8 v9 v10 v11 v12 v13 v14 v15 v16 v18 v19 v20 : Option V) (ss : List (List Int)) (el la : List (List (List Int))), σ = [some (.ref d), some (.ref p), some (.ref hl), some (.ref t), some (.int s0.m), some (.ref he), some (.ref pa), some (.ref lt), v8, v9, v10, v11, v12, v13, v14, v15, v16, none, v18, v19, v20] ∧ TI c s0 d l hl t p O0 H H' pa lt he i ss el la ss el la)
      ⟨he, lt, none, none, none, none, none, none, none, none, none, none, none, none, _, [], [], rfl, T7⟩ ?_ ?_⟩
    · rintro i σ H8 hi ⟨he, lt, v8, v9, v10, v11, v12, v13, v14, v15, v16, v18, v19, v20, ss, el, la, rfl, T8⟩
      refine ⟨_, rfl, d, l, 9, rfl, T8.deal, by omega, by omega, fun kd H9 fr9 hD9 h90 h91 => ?_⟩
      have T9 := T8.draw fr9 hD9
      have hT9 := T9
      obtain ⟨O, ps, ls, f9, w9, o9, z1, z2, D9, b9, c9⟩ := hT9
      obtain ⟨hes, hhe9, hhel⟩ := D9.heard
      refine ⟨_, rfl, he, _, rfl, .inl (SqL.of hhe9), fun bf hbf => ⟨_, _, rfl, ?_⟩⟩
      have s10 : Same H9 (upd H9 bf (.lst (hes.map V.ref))) := Same.new hbf
      have eb10 : LotL (upd H9 bf (.lst (hes.map V.ref))) bf ss := ⟨hes, upd_same, hhel.same s10⟩
      have T10 := T9.same s10
      dsimp only
      refine seq_post (fun σ' H' => ∃ (he lt : Addr) (v8 v9 v10 v11 v12 v13 v14 v15 v16 v18 v19 v20 : Option V) (ss : List (List Int)) (el la : List (List (List Int))), σ' = [some (.ref d), some (.ref p), some (.ref hl), some (.ref t), some (.int s0.m), some (.ref he), some (.ref pa), some (.ref lt), v8, v9, v10, v11, v12, v13, v14, v15, v16, none, v18, v19, v20] ∧ TI c s0 d l hl t p O0 H H' pa lt he (i + 1) ss el la ss el la) ?_ ?_
      · rintro σ' H' ⟨he, lt, v8, v9, v10, v11, v12, v13, v14, v15, v16, v18, v19, v20, ss, el, la, rfl, T1⟩
        have hT1 := T1
        obtain ⟨O, ps, ls, f1, w1, o1, _, _, D1, b1, c1⟩ := hT1
        exact ⟨_, rfl, _, rfl, _, rfl, _, rfl, p, hl, t, he, s0, O, ss, el, la, rfl, o1, D1.live, hok, D1.house, D1.roads, D1.heard, fun H2 s2 => ⟨_, rfl, iteF ⟨_, _, _, _, _, _, _, _, _, _, _, _, _, _, _, _, _, rfl, T1.same s2⟩⟩⟩
      intro R kR
      have nbf : bf ∉ d :: l :: pa :: lt :: O := D9.free T.neBL hbf
      generalize upd H9 bf (.lst (hes.map V.ref)) = H10 at s10 eb10 T10 ⊢
      have D10 := D9.same s10
      have f10 := f9.same s10
      refine ⟨_, rfl, rfl, _, rfl, ?_⟩
      rw [dec_int]
      by_cases c0 : kd = 0
      · rw [show (kd == 0) = true from by simpa using c0]
        obtain ⟨ts, hts1, _⟩ := D10.house
        have htsl : ts.length = s0.bs.length := by
          obtain ⟨ts', e1, e2⟩ := D10.house
          rw [hts1] at e1
          have e3 : (ts.map V.ref).length = (ts'.map V.ref).length := congrArg List.length (HO.lst.inj (Option.some.inj e1))
          rw [List.length_map, List.length_map] at e3
          rw [e3]; exact Paired.len' e2
        refine iteT ⟨_, rfl, _, rfl, _, rfl, hl, _, rfl, .inl (SqL.of hts1), _, rfl, d, l, t, s0, ?_, D10.deal, D10.roads, hok, fun m => D10.out t (by simp) (by simp only [List.mem_cons, List.not_mem_nil, or_false] at m ⊢; rcases m with m | m <;> simp [m]), fun r a w0 want xs H11 fr11 hD11 hr1 ha1 hrc => ?_⟩
        · rw [List.length_map, htsl]; rfl
        have T11 := T10.draw fr11 hD11
        have hT11 := T11
        obtain ⟨O', ps', ls', f11, w11, o11, _, _, D11, b11, c11⟩ := hT11
        refine ⟨_, rfl, _, rfl, r, _, _, _, rfl, rfl, .inr (SqT.of hr1), atI0 rfl, _, rfl, r, _, _, _, rfl, rfl, .inr (SqT.of hr1), atI1 rfl, p, a, w0, want, xs, s0, O', ss, el, la, rfl, o11, D11.live, hok, by omega, ha1, hrc, fun H12 s12 => ?_⟩
        refine ⟨_, rfl, r, _, _, _, rfl, rfl, .inr (SqT.of (s12 _ _ hr1)), (atI_nat (j := 2) rfl), rfl, _, rfl, ?_⟩
        rw [decide_eq_true rfl]
        exact iteF (kR _ _ ⟨_, _, _, _, _, _, _, _, _, _, _, _, _, _, _, _, _, rfl, (T11.same s12).mono (Nat.le_succ _)⟩)
      rw [show (kd == 0) = false from by simpa using c0]
      refine iteF ⟨_, rfl, rfl, _, rfl, ?_⟩
      rw [dec_int]
      by_cases c1 : kd = 1
      · rw [show (kd == 1) = true from by simp [c1]]
        refine iteT ?_
        refine ⟨_, rfl, rfl, _, rfl, ?_⟩
        rw [dec_int, show (kd == 1) = true from by simp [c1]]
        refine iteT ⟨_, rfl, ?_⟩
        refine ⟨_, rfl, rfl, _, rfl, ?_⟩
        rw [dec_int, show (kd == 1) = true from by simp [c1]]
        obtain ⟨dx, bt, rt, kt, e2, l2, as, ea, lla, _, L1⟩ := D10.live.at o9
        have nb1 := nbf
        refine iteT ⟨_, rfl, p, _, _, rfl, L1.ins, rfl, p, s0, O, ss, el, la, rfl, o9, D10.live, by omega, fun ee => ?_, fun e tt ee H11 O2 f2 w2 o2 L2 => ?_⟩
        · subst ee
          have eps : ps = [] := List.eq_nil_of_length_eq_zero (Paired.len' D10.pasts)
          subst eps
          refine ⟨_, rfl, Nat.zero_le _, fun nl hnl => ?_⟩
          have s11 : Same H10 (upd H10 nl (.lst [])) := Same.new hnl
          have e11 := s11 _ _ D10.past
          refine ⟨pa, nl, _, rfl, rfl, SqL.of e11, SqL.of upd_same, false, false, rfl, _, rfl, ?_⟩
          refine iteF ⟨_, rfl, Nat.zero_le _, fun nl2 hnl2 => ?_⟩
          have s12 := Same.new (o := .lst []) hnl2
          refine ⟨pa, nl2, _, rfl, rfl, SqL.of (s12 _ _ e11), SqL.of upd_same, _, rfl, ?_⟩
          exact iteF (kR _ _ ⟨_, _, _, _, _, _, _, _, _, _, _, _, _, _, _, _, _, rfl, (T10.same (Same.trans s11 s12)).mono (Nat.le_succ _)⟩)
        · subst ee
          obtain ⟨xa, ax, eps, _, _⟩ := Paired.snoc D10.pasts
          subst eps
          have D11 := D10.go T.neBL f2 w2 L2
          obtain ⟨eb11, nb2⟩ := D10.aside T.neBL f2 w2 eb10 nb1
          refine ⟨_, rfl, Nat.zero_le _, fun nl hnl => ?_⟩
          have s12 : Same H11 (upd H11 nl (.lst [])) := Same.new hnl
          have D12 := D11.same s12
          have eb12 := eb11.same s12
          have enl : (upd H11 nl (.lst [])) nl = some (.lst []) := upd_same
          generalize upd H11 nl (.lst []) = H12 at s12 D12 eb12 enl ⊢
          have ene : (!((xa ++ [ax]).map V.ref).isEmpty) = true := by
            cases xa <;> rfl
          refine ⟨pa, nl, _, rfl, rfl, SqL.of D12.past, SqL.of enl, true, true, by rw [ene], _, rfl, ?_⟩
          refine iteF ⟨_, rfl, Nat.zero_le _, fun nl2 hnl2 => ?_⟩
          have s13 : Same H12 (upd H12 nl2 (.lst [])) := Same.new hnl2
          have D13 := D12.same s13
          have eb13 := eb12.same s13
          have enl2 : (upd H12 nl2 (.lst [])) nl2 = some (.lst []) := upd_same
          have F13 : Fr O H10 (upd H12 nl2 (.lst [])) := (f2.same s12).same s13
          generalize upd H12 nl2 (.lst []) = H13 at s13 D13 eb13 enl2 F13 ⊢
          refine ⟨pa, nl2, _, rfl, rfl, SqL.of D13.past, SqL.of enl2, _, rfl, ?_⟩
          rw [ene]
          refine iteT ⟨_, rfl, rfl, _, rfl, ?_⟩
          rw [dec_int, show (kd == 1) = true from by simp [c1]]
          obtain ⟨e14, D14⟩ := D13.shiftL T.neBL eb13 nb2
          refine iteT ⟨_, rfl, ?_⟩
          refine ⟨_, rfl, .inl ⟨rfl, _, SqL.of D13.later⟩, _, rfl, lt, _, _, rfl, rfl, D13.later, by rw [List.length_map, Paired.len' D13.laters]; exact small_lt (by omega), ?_⟩
          refine ⟨_, rfl, .inl ⟨rfl, _, SqL.of e14⟩, pa, _, .ref ax, rfl, rfl, e14, ?_, ?_⟩
          · rw [List.length_map, List.length_append, List.length_singleton, List.getElem?_map, Nat.add_sub_cancel, List.getElem?_append_right (Nat.le_refl _), Nat.sub_self]; rfl
          rw [show ((xa ++ [ax]).map V.ref).dropLast = xa.map V.ref from by rw [List.map_append, show ([ax].map V.ref) = [V.ref ax] from rfl, List.dropLast_concat]]
          obtain ⟨F2, W2⟩ := ti_step f10 w9 D10.deal F13 w2
          refine kR _ _ ⟨_, _, _, _, _, _, _, _, _, _, _, _, _, _, _, _, _, rfl, O2, _, _, fun b o nb eb => ?_, W2, o2.trans o9, z1, z2, D14, ?_, ?_⟩
          · rw [upd_ne (fun z => z1.elim (fun q => by rw [z, q] at eb; cases eb) fun q => nb (by rw [z]; simp [q])), upd_ne (fun z => z2.elim (fun q => by rw [z, q] at eb; cases eb) fun q => nb (by rw [z]; simp [q]))]
            exact F2 b o nb eb
          · simp only [List.length_append, List.length_singleton] at *; omega
          · simp only [List.length_append, List.length_singleton] at *; omega
      rw [show (kd == 1) = false from by simpa using c1]
      refine iteF ⟨_, rfl, rfl, _, rfl, ?_⟩
      rw [dec_int]
      by_cases c2 : kd = 2
      · rw [show (kd == 2) = true from by simpa using c2]
        refine iteT ?_
        refine ⟨_, rfl, rfl, _, rfl, ?_⟩
        rw [dec_int, show (kd == 1) = false from by simp [c2]]
        refine iteF ⟨_, rfl, ?_⟩
        refine ⟨_, rfl, rfl, _, rfl, ?_⟩
        rw [dec_int, show (kd == 1) = false from by simp [c2]]
        obtain ⟨dx, bt, rt, kt, e2, l2, as, ea, lla, _, L1⟩ := D10.live.at o9
        have nb1 := nbf
        refine iteF ⟨_, rfl, p, _, _, rfl, L1.ins, rfl, p, s0, O, ss, el, la, rfl, o9, D10.live, by omega, fun ee => ?_, fun e tt ee H11 O2 f2 w2 o2 L2 => ?_⟩
        · subst ee
          have eps : ls = [] := List.eq_nil_of_length_eq_zero (Paired.len' D10.laters)
          subst eps
          refine ⟨_, rfl, Nat.zero_le _, fun nl hnl => ?_⟩
          have s11 : Same H10 (upd H10 nl (.lst [])) := Same.new hnl
          have e11 := s11 _ _ D10.later
          refine ⟨lt, nl, _, rfl, rfl, SqL.of e11, SqL.of upd_same, false, false, rfl, _, rfl, ?_⟩
          refine iteF ⟨_, rfl, Nat.zero_le _, fun nl2 hnl2 => ?_⟩
          have s12 := Same.new (o := .lst []) hnl2
          refine ⟨lt, nl2, _, rfl, rfl, SqL.of (s12 _ _ e11), SqL.of upd_same, _, rfl, ?_⟩
          exact iteF (kR _ _ ⟨_, _, _, _, _, _, _, _, _, _, _, _, _, _, _, _, _, rfl, (T10.same (Same.trans s11 s12)).mono (Nat.le_succ _)⟩)
        · subst ee
          obtain ⟨xa, ax, eps, _, _⟩ := Paired.snoc D10.laters
          subst eps
          have D11 := D10.go T.neBL f2 w2 L2
          obtain ⟨eb11, nb2⟩ := D10.aside T.neBL f2 w2 eb10 nb1
          refine ⟨_, rfl, Nat.zero_le _, fun nl hnl => ?_⟩
          have s12 : Same H11 (upd H11 nl (.lst [])) := Same.new hnl
          have D12 := D11.same s12
          have eb12 := eb11.same s12
          have enl : (upd H11 nl (.lst [])) nl = some (.lst []) := upd_same
          generalize upd H11 nl (.lst []) = H12 at s12 D12 eb12 enl ⊢
          have ene : (!((xa ++ [ax]).map V.ref).isEmpty) = true := by
            cases xa <;> rfl
          refine ⟨lt, nl, _, rfl, rfl, SqL.of D12.later, SqL.of enl, true, true, by rw [ene], _, rfl, ?_⟩
          refine iteF ⟨_, rfl, Nat.zero_le _, fun nl2 hnl2 => ?_⟩
          have s13 : Same H12 (upd H12 nl2 (.lst [])) := Same.new hnl2
          have D13 := D12.same s13
          have eb13 := eb12.same s13
          have enl2 : (upd H12 nl2 (.lst [])) nl2 = some (.lst []) := upd_same
          have F13 : Fr O H10 (upd H12 nl2 (.lst [])) := (f2.same s12).same s13
          generalize upd H12 nl2 (.lst []) = H13 at s13 D13 eb13 enl2 F13 ⊢
          refine ⟨lt, nl2, _, rfl, rfl, SqL.of D13.later, SqL.of enl2, _, rfl, ?_⟩
          rw [ene]
          refine iteT ⟨_, rfl, rfl, _, rfl, ?_⟩
          rw [dec_int, show (kd == 1) = false from by simp [c2]]
          obtain ⟨e14, D14⟩ := D13.shiftR T.neBL eb13 nb2
          refine iteF ⟨_, rfl, ?_⟩
          refine ⟨_, rfl, .inl ⟨rfl, _, SqL.of D13.past⟩, _, rfl, pa, _, _, rfl, rfl, D13.past, by rw [List.length_map, Paired.len' D13.pasts]; exact small_lt (by omega), ?_⟩
          refine ⟨_, rfl, .inl ⟨rfl, _, SqL.of e14⟩, lt, _, .ref ax, rfl, rfl, e14, ?_, ?_⟩
          · rw [List.length_map, List.length_append, List.length_singleton, List.getElem?_map, Nat.add_sub_cancel, List.getElem?_append_right (Nat.le_refl _), Nat.sub_self]; rfl
          rw [show ((xa ++ [ax]).map V.ref).dropLast = xa.map V.ref from by rw [List.map_append, show ([ax].map V.ref) = [V.ref ax] from rfl, List.dropLast_concat]]
          obtain ⟨F2, W2⟩ := ti_step f10 w9 D10.deal F13 w2
          refine kR _ _ ⟨_, _, _, _, _, _, _, _, _, _, _, _, _, _, _, _, _, rfl, O2, _, _, fun b o nb eb => ?_, W2, o2.trans o9, z1, z2, D14, ?_, ?_⟩
          · rw [upd_ne (fun z => z2.elim (fun q => by rw [z, q] at eb; cases eb) fun q => nb (by rw [z]; simp [q])), upd_ne (fun z => z1.elim (fun q => by rw [z, q] at eb; cases eb) fun q => nb (by rw [z]; simp [q]))]
            exact F2 b o nb eb
          · simp only [List.length_append, List.length_singleton] at *; omega
          · simp only [List.length_append, List.length_singleton] at *; omega
      rw [show (kd == 2) = false from by simpa using c2]
      have T10 : TI c s0 d l hl t p O0 H H10 pa lt he i ss el la ss el la := ⟨O, ps, ls, f10, w9, o9, z1, z2, D10, b9, c9⟩
      have lenh : ∀ {G : Hp} {pa lt he : Addr} {hs : List (List Int)} {pl ll : List (List (List Int))} {ss : List (List Int)} {el la : List (List (List Int))} {n : Nat}, TI c s0 d l hl t p O0 H G pa lt he n hs pl ll ss el la → ∃ ts : List Addr, G hl = some (.lst (ts.map V.ref)) ∧ (((ts.map V.ref).length : Nat) : Int) = s0.n := fun {G pa lt he hs pl ll ss el la n} T => by
        obtain ⟨_, _, _, _, _, _, _, _, DD, _, _⟩ := T
        obtain ⟨ts, e1, e2⟩ := DD.house
        exact ⟨ts, e1, by rw [List.length_map, Paired.len' e2]; rfl⟩
      obtain ⟨ts10, hts10, htl10⟩ := lenh T10
      refine iteF ⟨_, rfl, _, rfl, hl, _, rfl, .inl (SqL.of hts10), d, l, s0.n, by rw [htl10], T10.deal, by omega, by omega, fun r1 G1 fr1 hD1 r10 r11 => ?_⟩
      have U1 := T10.draw fr1 hD1
      have bb1 : Kt c H10 G1 := fr1.kt T10.deal.nst
      obtain ⟨ts1, hts1, htl1⟩ := lenh U1
      refine ⟨_, rfl, _, rfl, hl, _, rfl, .inl (SqL.of hts1), d, l, s0.n, by rw [htl1], U1.deal, by omega, by omega, fun r2 G2 fr2 hD2 r20 r21 => ?_⟩
      have U2 := U1.draw fr2 hD2
      refine ⟨_, rfl, _, rfl, d, l, s0.m, rfl, U2.deal, by omega, by omega, fun x G3 fr3 hD3 x0 x1 => ⟨(by show 1 ≤ sizeLine; decide), fun mo hmo => ⟨(by show 3 ≤ sizeLine; decide), fun q hq => ?_⟩⟩⟩
      have U3 := U2.draw fr3 hD3
      have fr13 : Fr [d, l] H10 G3 := (fr1.trans fr2).trans fr3
      have k13 : Kt c H10 G3 := fr13.kt T10.deal.nst
      have eb3 : LotL G3 bf ss := k13.lotL' fr13 (fun m => nbf (by simp only [List.mem_cons, List.not_mem_nil, or_false] at m ⊢; rcases m with m | m <;> simp [m])) eb10
      have s4 : Same G3 (upd G3 mo (.tup [.int x])) := Same.new hmo
      have s5 := Same.new (o := .tup [.int r1, .int r2, .ref mo]) hq
      have em5 := s5 _ _ (upd_same (H := G3) (a := mo) (o := .tup [.int x]))
      have eq5 : (upd (upd G3 mo (.tup [.int x])) q (.tup [.int r1, .int r2, .ref mo])) q = some (.tup [.int r1, .int r2, .ref mo]) := upd_same
      have S35 : Same G3 (upd (upd G3 mo (.tup [.int x])) q (.tup [.int r1, .int r2, .ref mo])) := Same.trans s4 s5
      generalize upd (upd G3 mo (.tup [.int x])) q (.tup [.int r1, .int r2, .ref mo]) = G5 at s5 em5 eq5 S35 ⊢
      have U5 := U3.same S35
      have eb5 := eb3.same S35
      refine ⟨q, _, rfl, SqT.of eq5, rfl, _, _, rfl, _, _, rfl, _, _, rfl, rfl, ?_⟩
      have E5 : DI c s0 d l hl t G5 O pa lt he ps ls ss el la ss el la := (((D10.draw fr1 hD1).draw fr2 hD2).draw fr3 hD3).same S35
      have F5 : Fr (d :: l :: O0) H G5 := fun b o nb eb => S35 _ _ (fr13 b o (fun m => nb (by simp only [List.mem_cons, List.not_mem_nil, or_false] at m ⊢; rcases m with m | m <;> simp [m])) (f10 b o nb eb))
      clear hts10 htl10 hts1 htl1 bb1 U1 U2 U3 T10 T9 D9 T8 eb10 s10 hhe9 hhel
      dsimp only
      refine seq_post (fun σ' G' => ∃ (v8 v11 v12 v13 v15 : Option V) (j : Nat) (mo hd td : Addr) (u nrow hrow a : List Int) (O' ps' ls' : List Addr), σ' = [some (.ref d), some (.ref p), some (.ref hl), some (.ref t), some (.int s0.m), some (.ref he), some (.ref pa), some (.ref lt), v8, some (.int kd), some (.ref bf), v11, v12, v13, some (.int (j : Int)), v15, some (.ref mo), none, some (.ref hd), some (.ref td), v20] ∧
        ss[j]? = some u ∧ TupI G' mo nrow ∧ LotOk s0.m nrow ∧ TupI G' hd hrow ∧ a.Perm hrow ∧ LotOk s0.m a ∧ LotT G' td (dropF s0 j a (uni s0.m u nrow)) ∧ LotL G' bf ss ∧ bf ∉ d :: l :: pa :: lt :: O' ∧
        Fr (d :: l :: O0) H G' ∧ Own H O0 O' ∧ O'.head? = some p ∧ DI c s0 d l hl t G' O' pa lt he ps' ls' (ss.set j (uni s0.m u nrow)) (el ++ [ss]) [] ss el la) ?_ ?_
      · rintro σ' G' ⟨v8, v11, v12, v13, v15, j, mo, hd, td, u, nrow, hrow, a, O', ps', ls', rfl, hu, hmo', hnr, hhd, hperm, hao, htd, hbf', nbf', F, W, o', D⟩
        have hjs := (List.getElem?_eq_some_iff.mp hu).1
        have hssl : ss.length = s0.bs.length := by
          have := (D.live.at o')
          obtain ⟨_, _, _, _, _, _, _, _, _, _, LL⟩ := this
          have := LL.heard.len
          rw [List.length_set] at this
          exact this
        obtain ⟨hes, hhe, hhel⟩ := D.heard
        have hul : LotOk s0.m u := by
          obtain ⟨_, _, _, _, _, _, _, _, _, _, LL⟩ := (D10.live.at o9)
          exact LL.heard.ok u (List.mem_of_getElem? hu)
        obtain ⟨hx, hhx, hxu⟩ := Paired.at2 hhel hu
        refine ⟨_, rfl, he, _, rfl, SqL.of hhe, fun h2 hh2 => ?_⟩
        have s1 : Same G' (upd G' h2 (.lst (cutV (hes.map V.ref) none none))) := Same.new hh2
        have eh1 : (upd G' h2 (.lst (cutV (hes.map V.ref) none none))) h2 = some (.lst (hes.map V.ref)) := by rw [upd_same, cut_all]
        generalize upd G' h2 (.lst (cutV (hes.map V.ref) none none)) = G1 at s1 eh1 ⊢
        have hrl : (rng 0 s0.m).length ≤ 6 := by rw [len_rng]; omega
        refine ⟨_, rfl, s0.m, rfl, by omega, by omega, fun D1 hD1 => lc_fmR0 s0.m (fun z => decide (z ∈ u) || decide (z ∈ nrow)) (IsIntR id) (stb_int _) hD1 (by omega) (fun z hz H' s' Rb kb => ?_) (fun z hz _ H' s' Rq kq => ?_) fun ys G2 s2 hys pp => ?_⟩
        · refine ⟨_, rfl, _, rfl, _, rfl, h2, _, _, _, rfl, rfl, .inl (SqL.of (s' _ _ eh1)), atI_nat (map_at hhx), hx, _, rfl, .inr (SqT.of (s' _ _ (s1 _ _ hxu))), rfl, flat_ints _, _, rfl, ?_⟩
          rw [inV_int]
          by_cases e1 : z ∈ u
          · rw [decide_eq_true e1]
            rw [decide_eq_true e1] at kb
            exact iteT (kb _ (Same.refl _))
          · rw [decide_eq_false e1]
            rw [decide_eq_false e1] at kb
            refine iteF ⟨_, rfl, _, rfl, mo, _, rfl, .inr (SqT.of (s' _ _ (s1 _ _ hmo'))), rfl, flat_ints _, _, rfl, ?_⟩
            rw [inV_int]
            exact kb _ (Same.refl _)
        · exact ⟨_, rfl, kq _ _ (Same.refl _) rfl⟩
        rw [paired_int pp, map_id_int] at hys
        have euni : (rng 0 s0.m).filter (fun z => decide (z ∈ u) || decide (z ∈ nrow)) = uni s0.m u nrow := rfl
        rw [euni] at hys
        have hlu := lot_uni s0.m u nrow
        refine ⟨D1, _, rfl, .inl ⟨SqL.of hys, fun hn hhn => ?_⟩⟩
        have s3 : Same G2 (upd G2 hn (.tup ((uni s0.m u nrow).map V.int))) := Same.new hhn
        have en3 : TupI (upd G2 hn (.tup ((uni s0.m u nrow).map V.int))) hn (uni s0.m u nrow) := upd_same
        have S13 : Same G1 (upd G2 hn (.tup ((uni s0.m u nrow).map V.int))) := Same.trans s2 s3
        generalize upd G2 hn (.tup ((uni s0.m u nrow).map V.int)) = G3 at s3 en3 S13 ⊢
        have eh3 := S13 _ _ eh1
        have hhl := (List.getElem?_eq_some_iff.mp hhx).1
        refine ⟨_, rfl, _, rfl, h2, _, _, j, rfl, rfl, eh3, ixN_nat (by rw [List.length_map]; exact hhl), ?_⟩
        have S4 : Same G' (upd G3 h2 (.lst ((hes.map V.ref).set j (.ref hn)))) := Same.chg (s1.trans S13) hh2
        have eh4 : (upd G3 h2 (.lst ((hes.map V.ref).set j (.ref hn)))) h2 = some (.lst ((hes.set j hn).map V.ref)) := by rw [upd_same, List.map_set]
        have en4 : TupI (upd G3 h2 (.lst ((hes.map V.ref).set j (.ref hn)))) hn (uni s0.m u nrow) := by
          show upd _ _ _ _ = _
          rw [upd_ne (ne_of en3 eh3 (by intro z; cases z))]
          exact en3
        generalize upd G3 h2 (.lst ((hes.map V.ref).set j (.ref hn))) = G4 at S4 eh4 en4 ⊢
        have hl4 : LotL G4 h2 (ss.set j (uni s0.m u nrow)) := ⟨_, eh4, lots_set (hhel.same S4) en4⟩
        have D4 := D.same S4
        have hat : ((hes.set j hn).map V.ref)[j]? = some (.ref hn) := by rw [List.getElem?_map, List.getElem?_set_self hhl]; rfl
        have hul6 : (uni s0.m u nrow).length ≤ 10 := by
          have := lot_len hlu hm0
          omega
        refine ⟨_, rfl, _, rfl, _, rfl, _, rfl, _, rfl, h2, _, _, _, rfl, rfl, .inl (SqL.of eh4), atI_nat hat, hl, t, hn, s0, j, _, rfl, D4.house, D4.roads, hok, by omega, en4, hlu, hul6, fun rk G5 s5 hrk => ?_⟩
        have S5 := S4.trans s5
        refine ⟨_, rfl, _, rfl, hd, hrow, rfl, SqT.of (S5 _ _ hhd), fun u' p3 hp hle hn3 => ?_⟩
        have ea : u' = a := by
          have hnd : u'.Nodup := (hp.trans hperm.symm).nodup_iff.mpr hao.1.nodup
          exact asc_ext (asc_of hle hnd) hao.1 fun z => (hp.trans hperm.symm).mem_iff
        subst ea
        have s6 : Same G5 (upd G5 p3 (.lst (u'.map V.int))) := Same.new hn3
        have ep6 : (upd G5 p3 (.lst (u'.map V.int))) p3 = some (.lst (u'.map V.int)) := upd_same
        generalize upd G5 p3 (.lst (u'.map V.int)) = G6 at s6 ep6 ⊢
        have S6 := S5.trans s6
        have hal6 := lot_len hao hm0
        refine ⟨p3, rfl, ⟨_, SqL.of ep6⟩, fun D2 hD2 => lc_fmL u' V.int (fun z => !decide (z ∈ s0.kept j (uni s0.m u nrow))) (IsLotR fun z => [(j : Int), z]) (stb_lot _) ep6 hD2 (by omega) (fun z hz H' s' Rb kb => ?_) (fun z hz _ H' s' Rq kq => ?_) fun zs G7 s7 hzs pp2 => ?_⟩
        · refine ⟨_, rfl, _, rfl, rk, _, rfl, .inr (SqT.of (s' _ _ (s6 _ _ hrk))), rfl, flat_ints _, _, rfl, ?_⟩
          rw [inV_int]
          exact kb _ (Same.refl _)
        · exact ⟨_, rfl, _, rfl, (by show 2 ≤ sizeLine; decide), fun o ho => kq _ _ (Same.new ho) ⟨o, rfl, upd_same⟩⟩
        obtain ⟨bs, rfl, hbs⟩ := paired_lot pp2
        refine ⟨D2, _, rfl, .inl ⟨SqL.of hzs, fun tp htp => ?_⟩⟩
        have s8 : Same G7 (upd G7 tp (.tup (bs.map V.ref))) := Same.new htp
        have et8 : LotT (upd G7 tp (.tup (bs.map V.ref))) tp (dropF s0 j u' (uni s0.m u nrow)) := ⟨bs, upd_same, hbs.same s8⟩
        generalize upd G7 tp (.tup (bs.map V.ref)) = G8 at s8 et8 ⊢
        have S8 := (S6.trans s7).trans s8
        refine ⟨.tuple (lotsD (dropF s0 j u' (uni s0.m u nrow))), .tuple (lotsD (dropF s0 j u' (uni s0.m u nrow))), dp_lotT (htd.same S8), dp_lotT et8, sh_lotT _, sh_lotT _, _, rfl, ?_⟩
        rw [eqv_self _ (sh_lotT _)]
        have D8 := D.same S8
        have hl8 : LotL G8 h2 (ss.set j (uni s0.m u nrow)) := hl4.same (((s5.trans s6).trans s7).trans s8)
        have hbf8 := hbf'.same S8
        refine iteF ⟨_, rfl, .inl ⟨rfl, _, SqL.of D8.past⟩, _, rfl, pa, _, _, rfl, rfl, D8.past, by rw [List.length_map, Paired.len' D8.pasts]; exact small_lt (by omega), ?_⟩
        have nh2 : h2 ∉ d :: l :: pa :: lt :: O' := D.free T.neBL hh2
        have D9' : DI c s0 d l hl t (upd G8 pa (.lst (ps'.map V.ref ++ [.ref bf]))) O' pa lt h2 (ps' ++ [bf]) ls' (ss.set j (uni s0.m u nrow)) (el ++ [ss]) [] (ss.set j (uni s0.m u nrow)) (el ++ [ss]) la := by
          refine D8.chg T.neBL (.inl rfl) (by rw [upd_same, List.map_append]; rfl) (by rw [upd_ne (Ne.symm D8.ne)]; exact D8.later) (Paired.app D8.pasts hbf8) D8.laters hl8 fun b m => ?_
          simp only [List.mem_cons, List.mem_append, List.not_mem_nil, or_false] at m
          rcases m with rfl | (m | rfl) | m
          · exact nh2
          · exact D8.out _ (by simp [m])
          · exact nbf'
          · exact D8.out _ (by simp [m])
        refine ⟨Nat.zero_le _, fun l3 hl3 => kR _ _ ⟨_, _, _, _, _, _, _, _, _, _, _, _, _, _, _, _, _, rfl, O', _, _, fun b o nb eb => ?_, W, o', z1, ?_, D9'.relt T.neBL hl3, ?_, Nat.zero_le _⟩⟩
        · have e8 := S8 _ _ (F b o nb eb)
          have npa : b ≠ pa := fun z => z1.elim (fun q => by rw [z, q] at eb; cases eb) fun q => nb (by rw [z]; simp [q])
          have e9 : (upd G8 pa (.lst (ps'.map V.ref ++ [.ref bf]))) b = some o := by rw [upd_ne npa]; exact e8
          exact (Same.new hl3) _ _ e9
        · by_cases q : l3 ∈ O0
          · exact .inr q
          · refine .inl ?_
            have npa : l3 ≠ pa := fun z => by rw [z, upd_same] at hl3; cases hl3
            rw [upd_ne npa] at hl3
            have h1 := Same.free S8 hl3
            refine F.free (fun m => ?_) h1
            simp only [List.mem_cons] at m
            rcases m with m | m | m
            · exact D.deal.free h1 (by simp [m])
            · exact D.deal.free h1 (by simp [m])
            · exact q m
        · rw [List.length_append, List.length_singleton]; omega
      · intro R2 kR2
        refine if_post (fun b G => Same G5 G ∧ (b = true → 1 ≤ s0.rs.length)) ?_ ?_ ?_
        · intro Qb kb
          refine ⟨_, rfl, _, _, rfl, rfl, _, rfl, ?_⟩
          by_cases c5 : 5 < kd
          · rw [decide_eq_true c5]
            refine iteT ⟨_, rfl, Nat.zero_le _, fun nl hnl => ?_⟩
            have s6 : Same G5 (upd G5 nl (.lst [])) := Same.new hnl
            obtain ⟨_, _, _, _, _, _, _, _, DD, _, _⟩ := U5
            obtain ⟨ts, e1, e2⟩ := DD.roads
            have e3 := Paired.len' e2
            rw [List.length_map] at e3
            refine ⟨t, nl, _, rfl, rfl, SqL.of (s6 _ _ e1), SqL.of upd_same, _, rfl, kb _ _ ⟨s6, fun hb => ?_⟩⟩
            cases ts with
            | nil => cases hb
            | cons a r => rw [← e3, List.length_cons]; omega
          · rw [decide_eq_false c5]
            exact iteF (kb _ _ ⟨Same.refl _, fun z => by cases z⟩)
        · rintro G6 ⟨s6, hrs⟩
          have E6 := E5.same s6
          have F6 := F5.same s6
          have eb6 := eb5.same s6
          obtain ⟨ts, hts, htl⟩ := E6.roads
          have htsl := Paired.len' htl
          rw [List.length_map] at htsl
          have hr1 := hrs rfl
          have hr2 := hok.rds.2.1
          refine ⟨_, rfl, _, rfl, d, l, t, _, rfl, E6.deal, .inl hts, fun m => E6.out t (by simp) (by simp only [List.mem_cons, List.not_mem_nil, or_false] at m ⊢; rcases m with m | m <;> simp [m]), by rw [List.length_map, htsl]; omega, by rw [List.length_map, htsl]; omega, fun ix y G7 hy fr7 hD7 => ?_⟩
          obtain ⟨ra, pq, rfl, hpq, hra⟩ := lots_at htl hy
          have hra7 := fr7.tup E6.deal hra
          have hin := List.mem_of_getElem? hpq
          have hrd := hok.rds.2.2 _ hin
          obtain ⟨p1, p2⟩ := pq
          unfold RdOk at hrd
          simp only at hrd hra7
          obtain ⟨i1, rfl⟩ : ∃ n : Nat, p1 = (n : Int) := ⟨p1.toNat, by omega⟩
          obtain ⟨j, rfl⟩ : ∃ n : Nat, p2 = (n : Int) := ⟨p2.toNat, by omega⟩
          have D := E6.draw fr7 hD7
          have F7 : Fr (d :: l :: O0) H G7 := F6.trans fun b o nb eb => fr7 b o (fun m => nb (by simp only [List.mem_cons, List.not_mem_nil, or_false] at m ⊢; rcases m with m | m <;> simp [m])) eb
          have k7 : Kt c G6 G7 := fr7.kt E6.deal.nst
          have eb7 : LotL G7 bf ss := k7.lotL' fr7 (fun m => nbf (by simp only [List.mem_cons, List.not_mem_nil, or_false] at m ⊢; rcases m with m | m <;> simp [m])) eb6
          have nb := nbf
          have W := w9
          have o' := o9
          obtain ⟨dx, bt, rt, kt, e2, l2, as, ea, lla, _, L⟩ := D.live.at o'
          have hj : j < ss.length := by rw [L.heard.len]; omega
          have hi1 : i1 < ss.length := by rw [L.heard.len]; omega
          obtain ⟨u, hu⟩ : ∃ u, ss[j]? = some u := ⟨ss[j], by simp [hj]⟩
          obtain ⟨u1, hu1⟩ : ∃ u, ss[i1]? = some u := ⟨ss[i1], by simp [hi1]⟩
          have hul := L.heard.ok u (List.mem_of_getElem? hu)
          have hul1 := L.heard.ok u1 (List.mem_of_getElem? hu1)
          have hku := lot_keptS (s := s0) (h := j) hul
          have hku1 := lot_keptS (s := s0) (h := i1) hul1
          have hkl := lot_len hku hm0
          have hkl1 := lot_len hku1 hm0
          obtain ⟨ks, hkt, hks⟩ := L.kept
          obtain ⟨ka, hka, hkk⟩ := Paired.at2 hks (keptL_at hu)
          obtain ⟨kb1, hkb1, hkk1⟩ := Paired.at2 hks (keptL_at hu1)
          obtain ⟨hes, hhe, hhel⟩ := D.heard
          obtain ⟨hx, hhx, hxu⟩ := Paired.at2 hhel hu1
          refine ⟨ra, _, rfl, SqT.of hra7, rfl, _, _, rfl, _, _, rfl, rfl, ?_⟩
          refine ⟨_, rfl, _, rfl, he, _, _, _, rfl, rfl, .inl (SqL.of hhe), atI_nat (map_at hhx), ?_⟩
          refine ⟨_, rfl, p, _, _, _, _, rfl, L.ins, T.clL, T.nL3, rfl, _, rfl, kt, _, _, _, rfl, rfl, .inr (SqT.of hkt), atI_nat (map_at hka), ?_⟩
          refine ⟨_, rfl, p, _, _, _, _, rfl, L.ins, T.clL, T.nL3, rfl, _, rfl, kt, _, _, _, rfl, rfl, .inr (SqT.of hkt), atI_nat (map_at hkb1), kb1, rfl, ⟨_, SqT.of hkk1⟩, fun D1 hD1 => lc_fmT (s0.kept i1 u1) V.int (fun z => !decide (z ∈ s0.kept j u)) (IsIntR id) (stb_int _) hkk1 hD1 (by omega) (fun z hz H' s' Rb kb => ?_) (fun z hz _ H' s' Rq kq => ?_) fun ys G8 s8 hys pp => ?_⟩
          · refine ⟨_, rfl, _, rfl, p, _, _, _, _, rfl, s' _ _ L.ins, T.clL, T.nL3, rfl, _, rfl, kt, _, _, _, rfl, rfl, .inr (SqT.of (s' _ _ hkt)), atI_nat (map_at hka), ka, _, rfl, .inr (SqT.of (s' _ _ hkk)), rfl, flat_ints _, _, rfl, ?_⟩
            rw [inV_int]
            exact kb _ (Same.refl _)
          · exact ⟨_, rfl, kq _ _ (Same.refl _) rfl⟩
          rw [paired_int pp, map_id_int] at hys
          refine ⟨D1, _, rfl, .inl ⟨SqL.of hys, fun e1 he1 => ?_⟩⟩
          have s9 : Same G8 (upd G8 e1 (.tup (((s0.kept i1 u1).filter fun z => !decide (z ∈ s0.kept j u)).map V.int))) := Same.new he1
          have S79 : Same G7 (upd G8 e1 (.tup (((s0.kept i1 u1).filter fun z => !decide (z ∈ s0.kept j u)).map V.int))) := Same.trans s8 s9
          have hfl := List.length_filter_le (fun z => !decide (z ∈ s0.kept j u)) (s0.kept i1 u1)
          refine cat_read (S79 _ _ hkk) upd_same (by omega) fun hd G10 s10 hhd => ?_
          have S10 := S79.trans s10
          have D10x := D.same S10
          have eb10 : LotL G10 bf ss := eb7.same S10
          refine ⟨_, rfl, p, _, _, rfl, S10 _ _ L.ins, rfl, _, rfl, _, rfl, rfl, p, s0, O, ss, el, la, .int (i1 : Int), .int (j : Int), rfl, o', D10x.live, hok, by omega, trivial, trivial, fun z => (by rw [isB_in L.heard hu1] at z; cases z), fun _ z => (by rw [isB_in L.heard hu] at z; cases z), fun i' j' ei ej _ _ _ _ hno => ?_, fun i' j' u' u2' ei ej hu' hu2' _ => ?_⟩
          · injection ei with ei
            injection ej with ej
            rw [← ei, ← ej] at hno
            exact absurd hin hno
          have ei' : i1 = i' := by injection ei with ei; omega
          have ej' : j = j' := by injection ej with ej; omega
          subst ei'
          subst ej'
          rw [hu1] at hu'
          rw [hu] at hu2'
          cases hu'
          cases hu2'
          intro td G11 O2 fr ow o2 LL htd
          have k11 : Kt c G10 G11 := fr.kt (D10x.live.nst T.neBL)
          obtain ⟨eb11, nb11⟩ := D10x.aside T.neBL fr ow eb10 nb
          obtain ⟨F2, W2⟩ := ti_step (F7.same S10) W D10x.deal fr (fun b m => (ow b m))
          exact kR2 _ _ ⟨_, _, _, _, _, j, hx, hd, td, u, u1, _, _, O2, ps, ls, rfl, hu, k11.tup (S10 _ _ hxu), hul1, k11.tup hhd, uni_perm hku hku1, lot_uni _ _ _, htd, eb11, nb11, F2, W2, o2.trans o', D10x.go T.neBL fr ow LL⟩
        · rintro G6 ⟨s6, _⟩
          have D := E5.same s6
          have F := F5.same s6
          have nb := nbf
          have W := w9
          have o' := o9
          obtain ⟨dx, bt, rt, kt, e2, l2, as, ea, lla, _, L⟩ := D.live.at o'
          obtain ⟨j, rfl⟩ : ∃ j : Nat, r1 = (j : Int) := ⟨r1.toNat, by omega⟩
          have hj : j < ss.length := by rw [L.heard.len]; omega
          obtain ⟨u, hu⟩ : ∃ u, ss[j]? = some u := ⟨ss[j], by simp [hj]⟩
          have hul := L.heard.ok u (List.mem_of_getElem? hu)
          have hku := lot_keptS (s := s0) (h := j) hul
          have hkl := lot_len hku hm0
          obtain ⟨ks, hkt, hks⟩ := L.kept
          obtain ⟨ka, hka, hkk⟩ := Paired.at2 hks (keptL_at hu)
          have em6 : TupI G6 mo [x] := s6 _ _ em5
          have hl1 := lot_one x0 x1
          refine ⟨_, rfl, p, _, _, _, _, rfl, L.ins, T.clL, T.nL3, rfl, _, rfl, kt, _, _, _, rfl, rfl, .inr (SqT.of hkt), atI_nat (map_at hka), ?_⟩
          refine ⟨_, rfl, mo, rfl, ⟨_, SqT.of em6⟩, fun D1 hD1 => lc_fmT [x] V.int (fun z => !decide (z ∈ s0.kept j u)) (IsIntR id) (stb_int _) em6 hD1 (by simp) (fun z hz H' s' Rb kb => ?_) (fun z hz _ H' s' Rq kq => ?_) fun ys G7 s7 hys pp => ?_⟩
          · refine ⟨_, rfl, _, rfl, p, _, _, _, _, rfl, s' _ _ L.ins, T.clL, T.nL3, rfl, _, rfl, kt, _, _, _, rfl, rfl, .inr (SqT.of (s' _ _ hkt)), atI_nat (map_at hka), ka, _, rfl, .inr (SqT.of (s' _ _ hkk)), rfl, flat_ints _, _, rfl, ?_⟩
            rw [inV_int]
            exact kb _ (Same.refl _)
          · exact ⟨_, rfl, kq _ _ (Same.refl _) rfl⟩
          rw [paired_int pp, map_id_int] at hys
          refine ⟨D1, _, rfl, .inl ⟨SqL.of hys, fun e1 he1 => ?_⟩⟩
          have s8 : Same G7 (upd G7 e1 (.tup (([x].filter fun z => !decide (z ∈ s0.kept j u)).map V.int))) := Same.new he1
          have S78 : Same G6 (upd G7 e1 (.tup (([x].filter fun z => !decide (z ∈ s0.kept j u)).map V.int))) := Same.trans s7 s8
          have hfl := List.length_filter_le (fun z => !decide (z ∈ s0.kept j u)) [x]
          rw [List.length_singleton] at hfl
          refine cat_read (S78 _ _ hkk) upd_same (by omega) fun hd G9 s9 hhd => ?_
          have S9 := S78.trans s9
          have D9x := D.same S9
          have eb9 : LotL G9 bf ss := (eb5.same s6).same S9
          refine ⟨_, rfl, p, _, _, rfl, S9 _ _ L.ins, rfl, _, rfl, _, rfl, mo, _, _, _, rfl, rfl, .inr (SqT.of (S9 _ _ em6)), atI0 rfl, rfl, p, s0, O, ss, el, la, .int (j : Int), .int x, rfl, o', D9x.live, hok, by omega, trivial, trivial, fun z => (by rw [isB_in L.heard hu] at z; cases z), fun _ z => ?_, fun h' x' u' i1 i2 hu' _ _ => ?_⟩
          · have : isB s0.m (.int x) = true := by simp only [isB, Bool.and_eq_true, decide_eq_true_eq]; exact ⟨x0, x1⟩
            rw [this] at z; cases z
          have ej : j = h' := by injection i1 with i1; omega
          subst ej
          rw [hu] at hu'
          cases hu'
          injection i2 with i2
          subst i2
          intro td G10 O2 fr ow o2 LL htd
          have k10 : Kt c G9 G10 := fr.kt (D9x.live.nst T.neBL)
          obtain ⟨eb10, nb10⟩ := D9x.aside T.neBL fr ow eb9 nb
          obtain ⟨F2, W2⟩ := ti_step (F.same S9) W D9x.deal fr (fun b m => (ow b m))
          exact kR2 _ _ ⟨_, _, _, _, _, j, mo, hd, td, u, [x], _, _, O2, ps, ls, rfl, hu, k10.tup (S9 _ _ em6), hl1, k10.tup hhd, uni_perm hku hl1, lot_uni _ _ _, htd, eb10, nb10, F2, W2, o2.trans o', D9x.go T.neBL fr ow LL⟩
    · rintro σ H8 ⟨he, lt, v8, v9, v10, v11, v12, v13, v14, v15, v16, v18, v19, v20, ss, el, la, rfl, T8⟩
      obtain ⟨O, ps, ls, f, w, o, _, _, D, b1, b2⟩ := T8
      refine ⟨_, rfl, (by show 2 ≤ sizeLine; decide), fun r hr' => ?_⟩
      have s9 := Same.new (o := .tup [.bl true, .ref he]) hr'
      exact k r he ss el la O _ (f.same s9) (D.deal.same s9) w o (D.live.same s9) (by omega) (by omega) upd_same (D.heard.same s9) (fun m => D.out he (by simp) (by simp only [List.mem_cons] at m ⊢; rcases m with m | m | m <;> simp [m]))
end
end Ws
end
section
set_option Elab.async false
set_option linter.all false
set_option maxRecDepth 100000
set_option maxHeartbeats 4000000
namespace Ws
open PySem PySem.Spec PyProof.Rows L2
set_option autoImplicit false
/-! K50: _law_refusals. -/
/-- the wild book's goers -/
def gW (s : List Int) : Int := if s = [0, 1, 2] then 0 else if s = [0, 1, 3] then 1 else if s = [0, 2, 3] then 2 else 3
theorem gW_rows : (rows 4 3).map gW = [0, 1, 2, 3] := by decide +kernel
theorem gW_in : ∀ s ∈ rows 4 3, gW s ∈ s := by decide +kernel
theorem gW_wild : steadyB 4 2 gW = false := by decide +kernel
/-- flat, and none of the draws' lists -/
def KdL (D : List Addr) (H : Hp) (x : V) : Prop := (∀ H', Kd H' x) ∨ ∃ q xs, x = .ref q ∧ Seq H q xs ∧ q ∉ D
theorem KdL.kd {D : List Addr} {H : Hp} {x : V} (h : KdL D H x) : Kd H x := by
  rcases h with h | ⟨q, xs, rfl, h, _⟩
  · exact h H
  · exact ⟨xs, h⟩
theorem KdL.fr {D : List Addr} {H H' : Hp} {x : V} (h : KdL D H x) (f : Fr D H H') : KdL D H' x := h.imp id fun ⟨q, xs, e, s, n⟩ => ⟨q, xs, e, s.elim (fun s => .inl (f _ _ n s)) fun s => .inr (f _ _ n s), n⟩
theorem KdL.same {D : List Addr} {H H' : Hp} {x : V} (h : KdL D H x) (s : Same H H') : KdL D H' x := h.fr (Same.fr _ s)
/-- the other book's goers: the first -/
def gH (s : List Int) : Int := s.headD 0
theorem gH_in {m : Int} {n : Nat} {s : List Int} (h : s ∈ rows m (n + 1)) : s[0]? = some (gH s) ∧ gH s ∈ s := by
  have := (mem_rows.mp h).2
  cases s with
  | nil => cases this
  | cons x r => exact ⟨rfl, List.mem_cons_self⟩
theorem sh_wi (w : Str) (i : Int) (hw : PyData.strOk w = true := by decide +kernel) : SeqAt.shaped (.tuple [.str w, .int i]) = true := by
  have e : PyData.depth (.tuple [.str w, .int i]) ≤ 2 := by simp [PyData.depth, PyData.depthAll]
  unfold SeqAt.shaped
  rw [show (PyData.tuple [.str w, .int i]).canLay0 = true by simp [PyData.canLay0, PyData.canLayAll0, hw], decide_eq_true (by omega)]
  rfl
theorem dp_wi {K : PySem.W.Frag} {H : Hp} {t : Addr} {w : Str} {i : Int} (h : H t = some (.tup [.str w, .int i])) : Dp K H (.ref t) (.tuple [.str w, .int i]) := .tup (SqT.of h) (.cons (.str _) (.cons (.int _) .nil))
section
variable {c : Cs} {s : Hs} {d l bl t ox wx : Addr} {as : List Addr} {H H' H2 : Hp}
/-- what is known at each step -/
structure RF (c : Cs) (s : Hs) (d l bl t ox wx : Addr) (as : List Addr) (H H' : Hp) : Prop where
  fr : Fr [d, l] H H'
  deal : DealAt H' [d, l]
  bl : H' bl = some (.lst (as.map V.ref))
  bk : Paired (BkAt c H' s.m) as s.bs
  rd : LotL H' t (s.rs.map pr)
  ob : BookAt c H' ox (s.m + 1) 1 gH
  wb : BookAt c H' wx 4 2 gW
theorem RF.same (h : RF c s d l bl t ox wx as H H') (q : Same H' H2) : RF c s d l bl t ox wx as H H2 := ⟨h.fr.same q, h.deal.same q, q _ _ h.bl, (Same.kt q).bks h.bk, h.rd.same q, h.ob.same q, h.wb.same q⟩
theorem RF.draw (h : RF c s d l bl t ox wx as H H') (n1 : bl ∉ [d, l]) (n2 : t ∉ [d, l]) (q : Fr [d, l] H' H2) (e : DealAt H2 [d, l]) : RF c s d l bl t ox wx as H H2 := by
  have k := q.kt (c := c) h.deal.nst
  exact ⟨h.fr.trans q, e, q _ _ n1 h.bl, k.bks h.bk, k.lotL' q n2 h.rd, k.book h.ob, k.book h.wb⟩
theorem BookAt.bkm {b : Addr} {m : Int} {k : Nat} {g : List Int → Int} (h : BookAt c H b m k g) : BkM c H (.ref b) m := by
  obtain ⟨dx, gs, d, e, _⟩ := h
  exact ⟨b, dx, _, rfl, e, rfl⟩
/-- what is due of the spoilt books -/
def DueC (D : List Addr) (H : Hp) (ox : Addr) (n a : Nat) (y : V) (w : Str) (i : Int) : Prop :=
  (KdL D H y ∧ w = "book" ∧ i = (a : Int)) ∨ (y = .ref ox ∧ ((0 < a ∧ w = "book" ∧ i = (a : Int)) ∨ (a = 0 ∧ 1 < n ∧ w = "book" ∧ i = 1) ∨ (a = 0 ∧ n = 1 ∧ w = "roads" ∧ i = 0)))
theorem DueC.ok {D : List Addr} {n a : Nat} {y : V} {w : Str} {i : Int} (h : DueC D H ox n a y w i) : PyData.strOk w = true := by
  rcases h with ⟨_, rfl, _⟩ | ⟨_, ⟨_, rfl, _⟩ | ⟨_, _, rfl, _⟩ | ⟨_, _, rfl, _⟩⟩ <;> decide +kernel
theorem DueC.same {D : List Addr} {n a : Nat} {y : V} {w : Str} {i : Int} (h : DueC D H ox n a y w i) (q : Same H H2) : DueC D H2 ox n a y w i := h.imp (fun ⟨h, e⟩ => ⟨h.same q, e⟩) id
theorem spoilt_at {a : Nat} {as : List Addr} {y : V} (ha : a < as.length) : ((as.take a).map V.ref ++ [y] ++ (as.drop (a + 1)).map V.ref)[a]? = some y ∧ (∀ i x, i < a → ((as.take a).map V.ref ++ [y] ++ (as.drop (a + 1)).map V.ref)[i]? = some x → x ∈ as.map V.ref) ∧
    (∀ i x, a < i → ((as.take a).map V.ref ++ [y] ++ (as.drop (a + 1)).map V.ref)[i]? = some x → x ∈ as.map V.ref) ∧ ((as.take a).map V.ref ++ [y] ++ (as.drop (a + 1)).map V.ref).length = as.length := by
  have ht : ((as.take a).map V.ref).length = a := by rw [List.length_map, List.length_take]; omega
  refine ⟨?_, fun i x hi e => ?_, fun i x hi e => ?_, ?_⟩
  · rw [List.append_assoc, List.getElem?_append_right (by omega), ht, Nat.sub_self]; rfl
  · rw [List.append_assoc, List.getElem?_append_left (by omega)] at e
    obtain ⟨z, hz, rfl⟩ := List.mem_map.mp (List.mem_of_getElem? e)
    exact List.mem_map.mpr ⟨z, List.mem_of_mem_take hz, rfl⟩
  · rw [List.getElem?_append_right (by rw [List.length_append, ht]; simp; omega)] at e
    obtain ⟨z, hz, rfl⟩ := List.mem_map.mp (List.mem_of_getElem? e)
    exact List.mem_map.mpr ⟨z, List.mem_of_mem_drop hz, rfl⟩
  · rw [List.length_append, List.length_append, ht, List.length_map, List.length_drop]
    simp
    omega
theorem built_spoilt (h : RF c s d l bl t ox wx as H H') {a : Nat} {y : V} {sp r p : Addr} {w : Str} {i : Int} (hsp : H' sp = some (.lst ((as.take a).map V.ref ++ [y] ++ (as.drop (a + 1)).map V.ref))) (ha : a < as.length) (hn : as.length ≤ 4)
    (hr : H' r = some (.lst [.ref p])) (hp : TupI H' p [0, 0]) (hc : DueC [d, l] H' ox as.length a y w i) : BuiltCase c H' (.ref sp) (.ref r) w i := by
  obtain ⟨e1, e2, e3, e4⟩ := spoilt_at (y := y) ha
  have hb := bks_bkm h.bk
  have early : ∀ j x, j < a → ((as.take a).map V.ref ++ [y] ++ (as.drop (a + 1)).map V.ref)[j]? = some x → BkM c H' x s.m := fun j x hj e => hb x (e2 j x hj e)
  rcases hc with ⟨hk, rfl, rfl⟩ | ⟨rfl, ⟨h0, rfl, rfl⟩ | ⟨rfl, hn1, rfl, rfl⟩ | ⟨rfl, hn1, rfl, rfl⟩⟩
  · exact .inl ⟨.inr ⟨sp, _, rfl, .inl hsp, .inr ⟨by rw [e4]; omega, by rw [e4]; omega, a, s.m, y, e1, rfl, early, .inl hk.kd⟩⟩, rfl⟩
  · exact .inl ⟨.inr ⟨sp, _, rfl, .inl hsp, .inr ⟨by rw [e4]; omega, by rw [e4]; omega, a, s.m, _, e1, rfl, early, .inr ⟨h0, s.m + 1, by omega, h.ob.bkm⟩⟩⟩, rfl⟩
  · obtain ⟨z, hz⟩ : ∃ z, ((as.take 0).map V.ref ++ [V.ref ox] ++ (as.drop (0 + 1)).map V.ref)[1]? = some z := ⟨_, List.getElem?_eq_getElem (by rw [e4]; omega)⟩
    refine .inl ⟨.inr ⟨sp, _, rfl, .inl hsp, .inr ⟨by rw [e4]; omega, by rw [e4]; omega, 1, s.m + 1, z, hz, rfl, fun j x hj e => ?_, .inr ⟨by omega, s.m, by omega, hb z (e3 1 z (by omega) hz)⟩⟩⟩, rfl⟩
    have : j = 0 := by omega
    subst this
    rw [e1] at e
    cases e
    exact h.ob.bkm
  · have e5 : (as.take 0).map V.ref ++ [V.ref ox] ++ (as.drop (0 + 1)).map V.ref = [.ref ox] := by
      rw [List.drop_of_length_le (by omega)]; rfl
    rw [e5] at hsp
    refine .inr (.inl ⟨_, ⟨sp, s.m + 1, rfl, .inl hsp, Nat.le_refl _, by show 1 ≤ 6; omega, fun x hx => by rw [List.mem_singleton.mp hx]; exact h.ob.bkm⟩, .inr ⟨r, _, 0, .ref p, [], rfl, .inl hr, by show 1 ≤ 1000; omega, rfl, rfl, .nil, fun p hp => (by cases hp), .nil, ?_⟩, rfl⟩)
    exact .inr (.inr (.inr ⟨(0, 0), ⟨p, rfl, .inr hp⟩, by show (0 : Int) ≤ 0; omega, by show (0 : Int) < ((1 : Nat) : Int); omega, by show (0 : Int) ≤ 0; omega, by show (0 : Int) < ((1 : Nat) : Int); omega, .inl rfl⟩))
/-- none of these is a house's books -/
def NoBks (H : Hp) (x : V) : Prop := x = .non ∨ x = .int 5 ∨ ∃ q ys, x = .ref q ∧ Seq H q ys ∧ (ys.length = 0 ∨ 6 < ys.length)
theorem NoBks.bad {x : V} (h : NoBks H x) (r : V) : BuiltCase c H x r "book" (-1) := by
  rcases h with rfl | rfl | ⟨q, ys, rfl, hq, hl⟩
  · exact .inl ⟨.inl ⟨trivial, rfl, rfl⟩, rfl⟩
  · exact .inl ⟨.inl ⟨trivial, rfl, rfl⟩, rfl⟩
  · exact .inl ⟨.inr ⟨q, ys, rfl, hq, .inl ⟨hl, rfl⟩⟩, rfl⟩
theorem RF.books (h : RF c s d l bl t ox wx as H H') (h1 : 1 ≤ as.length) (hn : as.length ≤ 4) : BooksOk c H' (.ref bl) (as.map V.ref) := ⟨bl, s.m, rfl, .inl h.bl, by rw [List.length_map]; exact h1, by rw [List.length_map]; omega, bks_bkm h.bk⟩
/-- a road that is not to be told, as flat as it may be -/
def BadR (D : List Addr) (H : Hp) (n : Int) (rs : List (Int × Int)) (x : V) : Prop :=
  (x = .non ∨ x = .bl true ∨ ∃ z, x = .str z) ∨ (∃ a ys, x = .ref a ∧ H a = some (.tup ys) ∧ ys.length ≠ 2) ∨ (∃ a y z, x = .ref a ∧ H a = some (.tup [y, z]) ∧ (∀ H, Kd H y) ∧ (∀ H, Kd H z) ∧ (isB n y && isB n z) = false) ∨
    (∃ (a : Addr) (p : Int × Int), x = .ref a ∧ TupI H a (pr p) ∧ 0 ≤ p.1 ∧ p.1 < n ∧ 0 ≤ p.2 ∧ p.2 < n ∧ (p.1 = p.2 ∨ p ∈ rs))
theorem BadR.bad {D : List Addr} {n : Int} {rs : List (Int × Int)} {x : V} (h : BadR D H n rs x) : RdBad H n rs x := by
  rcases h with h | ⟨a, ys, e, h, hl⟩ | ⟨a, y, z, e, h, h1, h2, h3⟩ | ⟨a, p, e, h, h1⟩
  · refine .inl ?_
    rcases h with rfl | rfl | ⟨z, rfl⟩ <;> exact ⟨trivial, rfl⟩
  · exact .inr (.inl ⟨a, ys, e, .inr h, hl⟩)
  · exact .inr (.inr (.inl ⟨a, y, z, e, .inr h, h1 _, h2 _, h3⟩))
  · exact .inr (.inr (.inr ⟨p, ⟨a, e, .inr h⟩, h1⟩))
theorem BadR.fr {n : Int} {rs : List (Int × Int)} {x : V} (h : BadR [d, l] H n rs x) (hD : DealAt H [d, l]) (f : Fr [d, l] H H2) : BadR [d, l] H2 n rs x := by
  rcases h with h | ⟨a, ys, e, h, hl⟩ | ⟨a, y, z, e, h, h1⟩ | ⟨a, p, e, h, h1⟩
  · exact .inl h
  · exact .inr (.inl ⟨a, ys, e, f.tup hD h, hl⟩)
  · exact .inr (.inr (.inl ⟨a, y, z, e, f.tup hD h, h1⟩))
  · exact .inr (.inr (.inr ⟨a, p, e, f.tup hD h, h1⟩))
theorem BadR.same {D : List Addr} {n : Int} {rs : List (Int × Int)} {x : V} (h : BadR D H n rs x) (f : Same H H2) : BadR D H2 n rs x := by
  rcases h with h | ⟨a, ys, e, h, hl⟩ | ⟨a, y, z, e, h, h1⟩ | ⟨a, p, e, h, h1⟩
  · exact .inl h
  · exact .inr (.inl ⟨a, ys, e, f _ _ h, hl⟩)
  · exact .inr (.inr (.inl ⟨a, y, z, e, f _ _ h, h1⟩))
  · exact .inr (.inr (.inr ⟨a, p, e, f _ _ h, h1⟩))
theorem Kt.upd {p : Addr} {xs : List V} {o : HO} (h : H p = some (.lst xs)) : Kt c H (upd H p o) := fun b u st e => by
  rw [upd_ne (fun z => by rw [z, h] at e; cases e; exact nst_lst st)]
  exact e
theorem BadR.kt {D : List Addr} {n : Int} {rs : List (Int × Int)} {x : V} (h : BadR D H n rs x) (k : Kt c H H2) : BadR D H2 n rs x := by
  rcases h with h | ⟨a, ys, e, h, hl⟩ | ⟨a, y, z, e, h, h1⟩ | ⟨a, p, e, h, h1⟩
  · exact .inl h
  · exact .inr (.inl ⟨a, ys, e, k.tup h, hl⟩)
  · exact .inr (.inr (.inl ⟨a, y, z, e, k.tup h, h1⟩))
  · exact .inr (.inr (.inr ⟨a, p, e, k.tup h, h1⟩))
theorem RF.upd (h : RF c s d l bl t ox wx as H H') {p : Addr} {xs : List V} (hp : H' p = some (.lst xs)) (n1 : p ≠ bl) (n2 : p ≠ t) (n3 : p ∉ [d, l]) (h0 : H p = none) (o : HO) : RF c s d l bl t ox wx as H (upd H' p o) := by
  have k : Kt c H' (L2.upd H' p o) := Kt.upd hp
  have f : Fr [p] H' (L2.upd H' p o) := fun b u nb e => by rw [upd_ne (fun z => nb (by rw [z]; simp))]; exact e
  exact ⟨Fr.chg h.fr (.inl h0), h.deal.upd n3, by rw [upd_ne (Ne.symm n1)]; exact h.bl, k.bks h.bk, k.lotL' f (fun z => n2 (List.mem_singleton.mp z).symm) h.rd, k.book h.ob, k.book h.wb⟩
theorem paired_ref : ∀ {as : List Addr} {ys : List V}, Paired (fun (x : Addr) (y : V) => y = V.ref x) as ys → ys = as.map V.ref
  | _, _, .nil => rfl
  | _, _, .cons r t => by rw [r, paired_ref t]; rfl
theorem built_road (h : RF c s d l bl t ox wx as H H') (ok : s.Ok) (h1 : 1 ≤ as.length) (hn : as.length ≤ 4) {q : Addr} {ras : List Addr} {pl : Nat} {x : V} (hq : H' q = some (.lst ((ras.map V.ref).take pl ++ [x] ++ (ras.map V.ref).drop pl))) (hras : Lots H' ras (s.rs.map pr)) (hpl : pl ≤ ras.length) (hx : BadR [d, l] H' s.n (s.rs.take pl) x) :
    BuiltCase c H' (.ref bl) (.ref q) "roads" (pl : Int) := by
  have hrl := Paired.len' hras
  rw [List.length_map] at hrl
  have hr6 := ok.rds.2.1
  have hlen := Paired.len' h.bk
  refine .inr (.inl ⟨_, h.books h1 hn, .inr ⟨q, _, pl, x, s.rs.take pl, rfl, .inl hq, ?_, ?_, rfl, ?_, fun p hp => ?_, ok.nd.sublist (List.take_sublist _ _), ?_⟩, rfl⟩)
  · simp only [List.length_append, List.length_take, List.length_drop, List.length_map, List.length_singleton]; omega
  · rw [List.append_assoc, List.getElem?_append_right (by rw [List.length_take, List.length_map]; omega), List.length_take, List.length_map, Nat.min_eq_left hpl, Nat.sub_self]; rfl
  · rw [List.append_assoc, List.take_append_of_le_length (by rw [List.length_take, List.length_map]; omega), List.take_take, Nat.min_self, ← List.map_take]
    refine rdAt_of ?_
    rw [List.map_take]
    exact Paired.take' pl hras
  · rw [List.length_map, hlen]; exact ok.rds.2.2 p (List.mem_of_mem_take hp)
  · rw [List.length_map, hlen]; exact hx.bad
theorem built_seven (h : RF c s d l bl t ox wx as H H') (h1 : 1 ≤ as.length) (hn : as.length ≤ 4) {x : V} (hx : Kd H' x ∧ isS x = false) : BuiltCase c H' (.ref bl) x "roads" (-1) :=
  .inr (.inl ⟨_, h.books h1 hn, .inl ⟨hx.1, hx.2, rfl⟩, rfl⟩)
theorem RF.wild (h : RF c s d l bl t ox wx as H H') {b : Addr} (hb : H' b = some (.lst [.ref wx])) : BooksOk c H' (.ref b) [.ref wx] := ⟨b, 4, rfl, .inl hb, Nat.le_refl _, by show 1 ≤ 6; omega, fun x hx => by rw [List.mem_singleton.mp hx]; exact h.wb.bkm⟩
theorem built_wild (h : RF c s d l bl t ox wx as H H') {b r p : Addr} (hb : H' b = some (.lst [.ref wx])) (hr : H' r = some (.lst [.ref p])) (hp : TupI H' p [0, 1]) : BuiltCase c H' (.ref b) (.ref r) "roads" 0 := by
  refine .inr (.inl ⟨_, h.wild hb, .inr ⟨r, _, 0, .ref p, [], rfl, .inl hr, by show 1 ≤ 1000; omega, rfl, rfl, .nil, fun p hp => (by cases hp), .nil, ?_⟩, rfl⟩)
  exact .inr (.inr (.inl ⟨p, .int 0, .int 1, rfl, .inr hp, trivial, trivial, rfl⟩))
theorem built_wild2 (h : RF c s d l bl t ox wx as H H') {b r : Addr} (hb : H' b = some (.lst [.ref wx])) (hr : H' r = some (.tup [])) : BuiltCase c H' (.ref b) (.ref r) "steady" (-1) := by
  refine .inr (.inr ⟨[wx], 4, [(2, gW)], [], h.wild hb, ⟨r, [], rfl, .inr hr, by show 0 ≤ 1000; omega, .nil, fun p hp => (by cases hp), .nil⟩, by omega, by omega, .cons ⟨h.wb, by show 2 ≤ 3; omega⟩ .nil, ⟨(2, gW), List.mem_singleton.mpr rfl, gW_wild⟩, rfl, rfl⟩)
end
section
variable {P : Program} {w : World} {K : PySem.W.Frag} {mg : Str → Option Value} {base : Heap} {c : Cs} {f1 f2 f3 f4 : Addr} {t9 t6 : Tok}
theorem ok__law_refusals (T : Txt P K mg c.CB c.CL c.C1 c.C2 c.C3 c.C4 f1 f2 f3 f4 t9 t6) (d_Book : Dk P w K mg base CX0 4 c.CB "Book" ["self", "many", "places", "goers"] ["many", "places", "goers"] (sp_Book c)) (d__law_any : Dn P w K mg base CX0 1 "_law_any" ["_law_deal", "_law_bound"] (sp__law_any c)) (d__law_built : Dn P w K mg base CX0 10 "_law_built" ["_law_books", "_law_roads"] (sp__law_built c)) (d__law_of : Dn P w K mg base CX0 2 "_law_of" ["_law_deal", "_law_some"] (sp__law_of c)) (d__law_rows : Dn P w K mg base CX0 1 "_law_rows" ["_law_many", "_law_size"] (sp__law_rows c)) {f : Addr} {fd : FuncData} (F : Fun K "_law_refusals" "_law_refusals" s__law_refusals f fd) : FnOk P w K mg base CX0 11 f fd ["_law_deal", "_law_books", "_law_roads", "_law_many"] (sp__law_refusals c) := by
  refine F.ok sc__law_refusals (fun vs H Q E h => ?_) (fun cdv A outer s H vs Q E hr h => ?_)
  · obtain ⟨d, l, bl, t, s0, as, rfl, hD, hbl, hbk, ht, hok, hn4, hm3, hm5, nbl, nt, k⟩ := h
    rfl
  · obtain ⟨d, l, bl, t, s0, as, rfl, hD, hbl, hbk, ht, hok, hn4, hm3, hm5, nbl, nt, k⟩ := h
    refine ⟨_, (pss_cons (ps_par (i := 4) (j := 5) (by rfl) sc__law_refusals.nd rfl rfl (by decide) rfl rfl (pa_cons (pe_callB (call_lenA (K := K) rfl) (by rfl) T.g_len (by decide +kernel) (pa_cons (pv 1) pa_nil)) (pa_cons (pe_dn d__law_any (hr.mono (by decide)) pA0 (pa_cons (pv 0) (pa_cons (pe_callB (call_lenA (K := K) rfl) (by rfl) T.g_len (by decide +kernel) (pa_cons (pv 1) pa_nil)) pa_nil))) pa_nil)) (by rfl))
    (pss_cons (ps_set (i := 7) sc__law_refusals.nd rfl (Or.inl rfl) (pe_dk d_Book (hr.mono (by decide)) pA0 (pa_cons (pe_op op_add (pv 3) pe_int) (pa_cons pe_int (pa_cons (pe_lc (own := [("_law_lot", 6)]) (g := (gName 6)) (tt := tYes) rfl sc__law_refusals.nd (pi_listK (K := K) rfl (pe_dn d__law_rows (hr.mono (by decide)) pA0 (pa_cons (pe_op op_add (pv 3) pe_int) (pa_cons pe_int pa_nil)))) (blkOk_by (N := ["_law_deal", "_law_books", "_law_roads", "_law_many", "_law_hands", "_law_at", "_law_lot", "_law_other", "_law_wild", "_law_odd", "_law_spoilt", "_law_due", "_law_road", "_law_place", "_law_less_here", "_law_bad_here"]) (sc := defScope s__law_refusals) (by decide +kernel)) (fun _ _ _ _ _ => (pg_name (i := 6) sc__law_refusals.nd rfl (Or.inl rfl))) (fun _ _ _ _ _ => pts_nil) (fun _ _ _ _ _ => (pe_ix (ix_A (K := K) rfl) (pv 6) pe_int (fun _ _ => rfl)))) pa_nil)))))
    (pss_cons (ps_set (i := 8) sc__law_refusals.nd rfl (Or.inl rfl) (pe_dk d_Book (hr.mono (by decide)) pA0 (pa_cons pe_int (pa_cons pe_int (pa_cons (pe_lst (pa_cons pe_int (pa_cons pe_int (pa_cons pe_int (pa_cons pe_int pa_nil))))) pa_nil)))))
    (pss_cons (ps_set (i := 9) sc__law_refusals.nd rfl (Or.inl rfl) (pe_dn d__law_of (hr.mono (by decide)) pA0 (pa_cons (pv 0) (pa_cons (pe_lst (pa_cons pe_non (pa_cons pe_int (pa_cons pe_str (pa_cons (pe_tup pa_nil) (pa_cons (pe_lst (pa_cons pe_int (pa_cons pe_int pa_nil))) pa_nil)))))) pa_nil))))
    (pss_cons (ps_set (i := 10) sc__law_refusals.nd rfl (Or.inl rfl) (pe_op op_cat (pe_op op_cat (pe_slice sl_list (pv 1) po_none (po_some (pv 5))) (pe_lst (pa_cons (pe_dn d__law_of (hr.mono (by decide)) pA0 (pa_cons (pv 0) (pa_cons (pe_lst (pa_cons (pv 9) (pa_cons (pv 7) pa_nil))) pa_nil))) pa_nil))) (pe_slice sl_list (pv 1) (po_some (pe_op op_add (pv 5) pe_int)) po_none)))
    (pss_cons (ps_set (i := 11) sc__law_refusals.nd rfl (Or.inl rfl) (pe_tup (pa_cons pe_str (pa_cons (pe_ifExp (PW.pt (pw_and (pt_cmpR op_eq (pv 5) pe_int (nomark _)) (pw_and (pt_cmpR op_gt (pv 4) pe_int (nomark _)) (pw_and1 (pt_val (pe_callB call_isi (by rfl) T.g_isinstance (by decide +kernel) (pa_cons (pe_ix (ix_A (K := K) rfl) (pv 10) pe_int (fun _ _ => rfl)) (pa_cons (pe_glob (v := .ref c.CB) rfl T.m_Book rfl) pa_nil)))))))) pe_int (pv 5)) pa_nil))))
    (pss_cons (ps_if (PW.pt (pw_and (pt_cmpR op_eq (pv 4) pe_int (nomark _)) (pw_and1 (pt_val (pe_callB call_isi (by rfl) T.g_isinstance (by decide +kernel) (pa_cons (pe_ix (ix_A (K := K) rfl) (pv 10) pe_int (fun _ _ => rfl)) (pa_cons (pe_glob (v := .ref c.CB) rfl T.m_Book rfl) pa_nil)))))))
    (pss_one (ps_set (i := 11) sc__law_refusals.nd rfl (Or.inl rfl) (pe_tup (pa_cons pe_str (pa_cons pe_int pa_nil)))))
    pss_nil)
    (pss_cons (ps_if (PW.pt (pw_or (pt_cmpR (op_neD hr.units) (pe_dn d__law_built (hr.mono (by decide)) pA0 (pa_cons (pv 10) (pa_cons (pe_lst (pa_cons (pe_tup (pa_cons pe_int (pa_cons pe_int pa_nil))) pa_nil)) pa_nil))) (pv 11) (nomark _)) (pw_or1 (pt_cmpR (op_neD hr.units) (pe_dn d__law_built (hr.mono (by decide)) pA0 (pa_cons (pe_dn d__law_of (hr.mono (by decide)) pA0 (pa_cons (pv 0) (pa_cons (pe_lst (pa_cons (pe_tup pa_nil) (pa_cons (pe_lst pa_nil) (pa_cons (pe_op op_rep (pe_slice sl_list (pv 1) po_none (po_some pe_int)) pe_int) (pa_cons pe_non (pa_cons pe_int pa_nil)))))) pa_nil))) (pa_cons pe_int pa_nil))) (pe_tup (pa_cons pe_str (pa_cons (pe_un un_neg pe_int) pa_nil))) (nomark _)))))
    (pss_one (ps_ret pe_bl))
    pss_nil)
    (pss_cons (ps_par (i := 13) (j := 14) (by rfl) sc__law_refusals.nd rfl rfl (by decide) rfl rfl (pa_cons (pe_dn d__law_any (hr.mono (by decide)) pA0 (pa_cons (pv 0) (pa_cons (pe_op op_add (pe_callB (call_lenA (K := K) rfl) (by rfl) T.g_len (by decide +kernel) (pa_cons (pv 2) pa_nil)) pe_int) pa_nil))) (pa_cons (pe_lc (own := [("_law_road", 12)]) (g := (gName 12)) (tt := tYes) rfl sc__law_refusals.nd (pi_listK (K := K) rfl (pv 2)) (blkOk_by (N := ["_law_deal", "_law_books", "_law_roads", "_law_many", "_law_hands", "_law_at", "_law_lot", "_law_other", "_law_wild", "_law_odd", "_law_spoilt", "_law_due", "_law_road", "_law_place", "_law_less_here", "_law_bad_here"]) (sc := defScope s__law_refusals) (by decide +kernel)) (fun _ _ _ _ _ => (pg_name (i := 12) sc__law_refusals.nd rfl (Or.inl rfl))) (fun _ _ _ _ _ => pts_nil) (fun _ _ _ _ _ => (pv 12))) pa_nil)) (by rfl))
    (pss_cons (ps_set (i := 15) sc__law_refusals.nd rfl (Or.inl rfl) (pe_dn d__law_of (hr.mono (by decide)) pA0 (pa_cons (pv 0) (pa_cons (pe_lst (pa_cons (pe_tup (pa_cons (pv 5) (pa_cons (pv 5) pa_nil))) (pa_cons (pe_tup (pa_cons (pv 5) (pa_cons (pv 4) pa_nil))) (pa_cons (pe_tup (pa_cons (pe_un un_neg pe_int) (pa_cons (pv 5) pa_nil))) (pa_cons (pe_tup (pa_cons (pv 5) pa_nil)) (pa_cons pe_non (pa_cons (pe_tup (pa_cons (pv 5) (pa_cons (pv 5) (pa_cons (pv 5) pa_nil)))) (pa_cons pe_bl (pa_cons pe_str (pa_cons (pe_tup (pa_cons pe_bl (pa_cons (pv 5) pa_nil))) pa_nil)))))))))) pa_nil))))
    (pss_cons (ps_if (PW.pt (pw_and (pt_cmpR op_gt (pv 13) pe_int (nomark _)) (pw_and1 (pt_cmpR op_eq (pe_dn d__law_any (hr.mono (by decide)) pA0 (pa_cons (pv 0) (pa_cons pe_int pa_nil))) pe_int (nomark _)))))
    (pss_one (ps_set (i := 15) sc__law_refusals.nd rfl (Or.inl rfl) (pe_ix (ix_A (K := K) rfl) (pv 14) (pe_dn d__law_any (hr.mono (by decide)) pA0 (pa_cons (pv 0) (pa_cons (pv 13) pa_nil))) (fun _ _ => rfl))))
    pss_nil)
    (pss_cons (ps_expr (pe_bm PySem.F.plainAttrs_list PySem.F.slot_list_insert PySem.F.type_list_insert mt_insert (pv 14) (pa_cons (pv 13) (pa_cons (pv 15) pa_nil))))
    (pss_cons (ps_if (PW.pt (pw_or (pt_cmpR (op_neD hr.units) (pe_dn d__law_built (hr.mono (by decide)) pA0 (pa_cons (pv 1) (pa_cons (pv 14) pa_nil))) (pe_tup (pa_cons pe_str (pa_cons (pv 13) pa_nil))) (nomark _)) (pw_or1 (pt_cmpR (op_neD hr.units) (pe_dn d__law_built (hr.mono (by decide)) pA0 (pa_cons (pv 1) (pa_cons (pe_ifExp (pt_cmpR op_isN (pv 9) pe_non (nomark _)) (pv 9) pe_int) pa_nil))) (pe_tup (pa_cons pe_str (pa_cons (pe_un un_neg pe_int) pa_nil))) (nomark _)))))
    (pss_one (ps_ret pe_bl))
    pss_nil)
    (pss_cons (ps_if (PW.pt (pw_or (pt_cmpR (op_neD hr.units) (pe_dn d__law_built (hr.mono (by decide)) pA0 (pa_cons (pe_lst (pa_cons (pv 8) pa_nil)) (pa_cons (pe_lst (pa_cons (pe_tup (pa_cons pe_int (pa_cons pe_int pa_nil))) pa_nil)) pa_nil))) (pe_tup (pa_cons pe_str (pa_cons pe_int pa_nil))) (nomark _)) (pw_or1 (pt_cmpR (op_neD hr.units) (pe_dn d__law_built (hr.mono (by decide)) pA0 (pa_cons (pe_lst (pa_cons (pv 8) pa_nil)) (pa_cons (pe_tup pa_nil) pa_nil))) (pe_tup (pa_cons pe_str (pa_cons (pe_un un_neg pe_int) pa_nil))) (nomark _)))))
    (pss_one (ps_ret pe_bl))
    pss_nil)
    (pss_one (ps_ret pe_bl)))))))))))))))), ?_⟩
    have hlen := Paired.len' hbk
    have hn1 := hok.n1
    have hrl := hok.rds.2.1
    refine ⟨_, rfl, bl, _, rfl, .inl (SqL.of hbl), _, rfl, _, rfl, bl, _, rfl, .inl (SqL.of hbl), d, l, _, rfl, hD, by rw [List.length_map]; omega, by rw [List.length_map]; omega, fun at_ H1 fr1 hD1 at0 at1 => ⟨_, _, rfl, ?_⟩⟩
    rw [List.length_map] at at1 ⊢
    rw [hlen] at at1
    obtain ⟨a, rfl⟩ : ∃ a : Nat, at_ = (a : Int) := ⟨at_.toNat, by omega⟩
    have hbl1 := fr1 _ _ nbl hbl
    have k1 : Kt c H H1 := fr1.kt hD.nst
    have hbk1 := k1.bks hbk
    have ht1 : LotL H1 t (s0.rs.map pr) := k1.lotL' fr1 nt ht
    refine ⟨_, rfl, _, _, rfl, rfl, _, rfl, _, _, rfl, rfl, s0.m + 1, 2, rfl, by omega, by omega, by omega, fun rl H2 s2 hrl2 hL2 => ?_⟩
    obtain ⟨ras, hras1, hras2⟩ := hL2
    obtain ⟨ps, e1, e2, hps⟩ := lots_zip hras2
    subst e1
    have hsm := rows_small (m := s0.m + 1) (k := 2) (by omega) (by omega) (by omega)
    have hpl : ps.length = (rows (s0.m + 1) 2).length := by rw [e2, List.length_map]
    refine ⟨rl, rfl, ⟨_, SqL.of hras1⟩, fun D hDn => lc_fmL ps (fun p => V.ref p.1) (fun _ => true) (IsIntR fun p => gH p.2) (stb_int _) (by rw [hras1, fst_map]) hDn (by omega) (fun y hy H' s' Rb kb => kb _ (Same.refl _)) (fun y hy _ H' s' Rq kq => ?_) fun ys H3 s3 hys pp => ?_⟩
    · have hy1 : y.2 ∈ rows (s0.m + 1) (1 + 1) := by rw [show (1 + 1 : Nat) = 2 from rfl, e2]; exact List.mem_map.mpr ⟨y, hy, rfl⟩
      exact ⟨_, rfl, y.1, _, _, _, rfl, rfl, .inr (SqT.of (s' _ _ (hps y hy))), atI0 (map_at (gH_in hy1).1), kq _ _ (Same.refl _) rfl⟩
    rw [filter_tt] at pp
    rw [paired_int pp] at hys
    have hgo : ListI H3 D ((rows (s0.m + 1) (1 + 1)).map gH) := by
      rw [show (1 + 1 : Nat) = 2 from rfl, e2, List.map_map]
      exact hys
    have S3 := s2.trans s3
    intro ox odx hox hodx nox
    have s4 : Same H3 (upd (upd H3 odx (.own ox)) ox (.ins c.CB odx [])) := Same.put (Same.new hodx) (by rw [upd_ne (Ne.symm nox)]; exact hox)
    have eo4 : (upd (upd H3 odx (.own ox)) ox (.ins c.CB odx [])) ox = some (.ins c.CB odx []) := upd_same
    generalize upd (upd H3 odx (.own ox)) ox (.ins c.CB odx []) = H4 at s4 eo4 ⊢
    refine ⟨ox, D, odx, s0.m + 1, 1, gH, rfl, eo4, s4 _ _ hgo, by omega, by omega, by omega, by omega, by omega, fun s' hs' => (gH_in hs').2, fun H5 b5 hob => ⟨rfl, ?_⟩⟩
    have S5 : Same H3 H5 := fun b o e => b5 b o (fun z => by rw [z, hox] at e; cases e) (s4 b o e)
    have S15 : Same H1 H5 := S3.trans S5
    clear s4 eo4 hgo hys pp s3 s2 hras1 hras2 hpl hsm
    refine ⟨(by show 4 ≤ sizeLine; decide), fun wl hwl => ?_⟩
    intro wx wdx hwx hwdx nwx
    have s6 : Same H5 (upd H5 wl (.lst [.int 0, .int 1, .int 2, .int 3])) := Same.new hwl
    have ewl : ListI (upd H5 wl (.lst [.int 0, .int 1, .int 2, .int 3])) wl ((rows 4 (2 + 1)).map gW) := by
      show _ = some (HO.lst (((rows 4 3).map gW).map V.int))
      rw [gW_rows]
      exact upd_same
    generalize upd H5 wl (.lst [.int 0, .int 1, .int 2, .int 3]) = H6 at s6 ewl hwx hwdx ⊢
    have s7 : Same H6 (upd (upd H6 wdx (.own wx)) wx (.ins c.CB wdx [])) := Same.put (Same.new hwdx) (by rw [upd_ne (Ne.symm nwx)]; exact hwx)
    have eo7 : (upd (upd H6 wdx (.own wx)) wx (.ins c.CB wdx [])) wx = some (.ins c.CB wdx []) := upd_same
    generalize upd (upd H6 wdx (.own wx)) wx (.ins c.CB wdx []) = H7 at s7 eo7 ⊢
    refine ⟨wx, wl, wdx, 4, 2, gW, rfl, eo7, s7 _ _ ewl, by omega, by omega, by omega, by omega, by omega, fun s' hs' => gW_in s' hs', fun H8 b8 hwb => ⟨rfl, ?_⟩⟩
    have S68 : Same H6 H8 := fun b o e => b8 b o (fun z => by rw [z, hwx] at e; cases e) (s7 b o e)
    have S58 : Same H5 H8 := Same.trans s6 S68
    have S18 : Same H1 H8 := S15.trans S58
    have R8 : RF c s0 d l bl t ox wx as H H8 := ⟨fr1.same S18, hD1.same S18, S18 _ _ hbl1, (Same.kt S18).bks hbk1, ht1.same S18, hob.same S58, hwb⟩
    clear S18 S58 S68 s7 eo7 s6 ewl hwb b8 S15 S5 hob b5 S3 ht1 hbk1 hbl1 k1
    -- odd
    refine ⟨_, rfl, (by show 0 ≤ sizeLine; decide), fun tp htp => ⟨(by show 2 ≤ sizeLine; decide), fun l01 hl01 => ⟨(by show 5 ≤ sizeLine; decide), fun ol hol => ?_⟩⟩⟩
    have q1 : Same H8 (upd H8 tp (.tup [])) := Same.new htp
    have q2 : Same (upd H8 tp (.tup [])) (upd (upd H8 tp (.tup [])) l01 (.lst [.int 0, .int 1])) := Same.new hl01
    have q3 := Same.new (o := .lst [.non, .int 3, .str "book", .ref tp, .ref l01]) hol
    have etp := (Same.trans q2 q3) _ _ (upd_same (H := H8) (a := tp) (o := .tup []))
    have el0 := q3 _ _ (upd_same (H := upd H8 tp (.tup [])) (a := l01) (o := .lst [.int 0, .int 1]))
    have eol : (upd (upd (upd H8 tp (.tup [])) l01 (.lst [.int 0, .int 1])) ol (.lst [.non, .int 3, .str "book", .ref tp, .ref l01])) ol = some (.lst [.non, .int 3, .str "book", .ref tp, .ref l01]) := upd_same
    have R9 := R8.same ((Same.trans q1 q2).trans q3)
    have ntp : tp ∉ [d, l] := R8.deal.free htp
    have nl0 : l01 ∉ [d, l] := (R8.same q1).deal.free hl01
    have nol : ol ∉ [d, l] := (R8.same (Same.trans q1 q2)).deal.free hol
    generalize upd (upd (upd H8 tp (.tup [])) l01 (.lst [.int 0, .int 1])) ol (.lst [.non, .int 3, .str "book", .ref tp, .ref l01]) = H9 at q3 etp el0 eol R9 ⊢
    refine ⟨d, l, ol, _, rfl, R9.deal, .inl eol, nol, by show 1 ≤ 5; omega, by show 5 ≤ 1000; omega, fun i1 x H10 hx fr10 hD10 => ?_⟩
    have R10 := R9.draw nbl nt fr10 hD10
    have hkx : KdL [d, l] H10 x := by
      have hm := List.mem_of_getElem? hx
      simp only [List.mem_cons, List.not_mem_nil, or_false] at hm
      rcases hm with rfl | rfl | rfl | rfl | rfl
      · exact .inl fun _ => trivial
      · exact .inl fun _ => trivial
      · exact .inl fun _ => trivial
      · exact KdL.fr (.inr ⟨tp, _, rfl, .inr etp, ntp⟩) fr10
      · exact KdL.fr (.inr ⟨l01, _, rfl, .inl el0, nl0⟩) fr10
    have hxo : x = .non ∨ x ≠ .non := Classical.em _
    clear hx fr10 hD10 R9 q1 q2 q3 etp el0 eol R8 ntp nl0 nol
    -- spoilt
    refine ⟨_, rfl, _, rfl, _, rfl, bl, _, rfl, SqL.of R10.bl, fun p1 hp1 => ?_⟩
    rw [cutNf]
    have z1 : Same H10 (upd H10 p1 (.lst ((as.take a).map V.ref))) := Same.new hp1
    have e1 : (upd H10 p1 (.lst ((as.take a).map V.ref))) p1 = some (.lst ((as.take a).map V.ref)) := upd_same
    have np1 : p1 ∉ [d, l] := R10.deal.free hp1
    have R11 := R10.same z1
    have hk11 := hkx.same z1
    generalize upd H10 p1 (.lst ((as.take a).map V.ref)) = H11 at e1 R11 hk11 ⊢
    refine ⟨_, rfl, _, rfl, _, rfl, (by show 2 ≤ sizeLine; decide), fun o2 ho2 => ?_⟩
    have z2 : Same H11 (upd H11 o2 (.lst [x, .ref ox])) := Same.new ho2
    have no2 : o2 ∉ [d, l] := R11.deal.free ho2
    refine ⟨d, l, o2, _, rfl, R11.deal.same z2, .inl upd_same, no2, by show 1 ≤ 2; omega, by show 2 ≤ 1000; omega, fun i2 y H12 hy fr12 hD12 => ?_⟩
    have R12 := (R11.same z2).draw nbl nt fr12 hD12
    have e12 := fr12 _ _ np1 (z2 _ _ e1)
    have hk12 := (hk11.same z2).fr fr12
    have hy12 : y = x ∨ y = .ref ox := by
      have hm := List.mem_of_getElem? hy
      simpa only [List.mem_cons, List.not_mem_nil, or_false] using hm
    clear hy fr12 hD12 R11 hk11 e1 z2
    refine ⟨(by show 1 ≤ sizeLine; decide), fun p2 hp2 => ?_⟩
    have z3 : Same H12 (upd H12 p2 (.lst [y])) := Same.new hp2
    have sz : as.length ≤ 4 := by omega
    refine ⟨p1, p2, _, _, rfl, rfl, z3 _ _ e12, upd_same, by rw [List.length_map, List.length_take]; exact small_k (by show _ + 1 ≤ _; omega), fun p3 hp3 => ?_⟩
    have z4 : Same (upd H12 p2 (.lst [y])) (upd (upd H12 p2 (.lst [y])) p3 (.lst ((as.take a).map V.ref ++ [y]))) := Same.new hp3
    have e3 : (upd (upd H12 p2 (.lst [y])) p3 (.lst ((as.take a).map V.ref ++ [y]))) p3 = some (.lst ((as.take a).map V.ref ++ [y])) := upd_same
    have R13 := R12.same (Same.trans z3 z4)
    have hk13 := hk12.same (Same.trans z3 z4)
    clear e12 R12 hk12
    generalize upd (upd H12 p2 (.lst [y])) p3 (.lst ((as.take a).map V.ref ++ [y])) = H13 at e3 R13 hk13 z4 ⊢
    refine ⟨_, rfl, _, rfl, _, _, rfl, rfl, _, rfl, bl, _, rfl, SqL.of R13.bl, fun p4 hp4 => ?_⟩
    rw [show ((a : Int) + 1) = ((a + 1 : Nat) : Int) from by omega, cut_from, ← List.map_drop]
    have z5 : Same H13 (upd H13 p4 (.lst ((as.drop (a + 1)).map V.ref))) := Same.new hp4
    refine ⟨p3, p4, _, _, rfl, rfl, z5 _ _ e3, upd_same, by rw [List.length_append, List.length_map, List.length_map, List.length_take, List.length_drop]; exact small_k (by show _ + 1 + _ ≤ _; omega), fun sp hsp => ?_⟩
    have z6 : Same (upd H13 p4 (.lst ((as.drop (a + 1)).map V.ref))) (upd (upd H13 p4 (.lst ((as.drop (a + 1)).map V.ref))) sp (.lst ((as.take a).map V.ref ++ [y] ++ (as.drop (a + 1)).map V.ref))) := Same.new hsp
    have e14 : (upd (upd H13 p4 (.lst ((as.drop (a + 1)).map V.ref))) sp (.lst ((as.take a).map V.ref ++ [y] ++ (as.drop (a + 1)).map V.ref))) sp = some (.lst ((as.take a).map V.ref ++ [y] ++ (as.drop (a + 1)).map V.ref)) := upd_same
    have R14 := R13.same (Same.trans z5 z6)
    have hk14 := hk13.same (Same.trans z5 z6)
    clear R13 hk13 e3 z3 hp2 R10 hkx z1 hp1
    generalize upd (upd H13 p4 (.lst ((as.drop (a + 1)).map V.ref))) sp (.lst ((as.take a).map V.ref ++ [y] ++ (as.drop (a + 1)).map V.ref)) = H14 at e14 R14 hk14 z6 ⊢
    clear z6 z5 hsp hp4 z4 hp3
    have hy14 : KdL [d, l] H14 y ∨ y = .ref ox := hy12.imp (fun e => by rw [e]; exact hk14) id
    clear hy12
    have at1' : a < as.length := by omega
    obtain ⟨g1, g2, g3, g4⟩ := spoilt_at (y := y) at1'
    generalize hxs : (as.take a).map V.ref ++ [y] ++ (as.drop (a + 1)).map V.ref = xs at e14 g1 g2 g3 g4
    -- due
    have hisi : ∀ {H' : Hp}, Same H14 H' → ∃ u, TyX K H' y u ∧ PySem.W.kitOne K u (.ref c.CB) = some (decide (y = .ref ox)) := fun {H'} s' => by
      rcases hy14 with h | h
      · obtain ⟨u, h1, h2⟩ := kd_book T (h.same s').kd
        refine ⟨u, h1, ?_⟩
        rw [h2]
        have : y ≠ .ref ox := fun e => by
          obtain ⟨b, dx, fs, e2, e3, _⟩ := R14.ob.bkm
          rw [e] at h
          rcases h with h | ⟨q, ys, e4, h4, _⟩
          · obtain ⟨ys, h5⟩ := h H14
            cases e2
            rcases h5 with h5 | h5 <;> (rw [e3] at h5; cases h5)
          · cases e2
            cases e4
            rcases h4 with h5 | h5 <;> (rw [e3] at h5; cases h5)
        rw [decide_eq_false this]
      · obtain ⟨u, h1, h2⟩ := bkm_isi T (R14.ob.bkm.same s')
        subst h
        refine ⟨u, h1, ?_⟩
        rw [h2, decide_eq_true rfl]
    dsimp only
    refine seq_post (fun σ' H' => ∃ (dt : Addr) (i : Int), σ' = [some (.ref d), some (.ref bl), some (.ref t), some (.int s0.m), some (.int ((as.length : Nat) : Int)), some (.int (a : Int)), none, some (.ref ox), some (.ref wx), some x, some (.ref sp), some (.ref dt), none, none, none, none] ∧ Same H14 H' ∧ H' dt = some (.tup [.str "book", .int i]) ∧ ((a = 0 ∧ 1 < as.length ∧ y = .ref ox ∧ i = 1) ∨ (¬ (a = 0 ∧ 1 < as.length ∧ y = .ref ox) ∧ i = (a : Int)))) ?_ ?_
    · rintro σ' H15 ⟨dt, i, rfl, s15, hdt, hi⟩
      refine seq_post (fun σ' H' => ∃ (dt : Addr) (w : Str) (i : Int), σ' = [some (.ref d), some (.ref bl), some (.ref t), some (.int s0.m), some (.int ((as.length : Nat) : Int)), some (.int (a : Int)), none, some (.ref ox), some (.ref wx), some x, some (.ref sp), some (.ref dt), none, none, none, none] ∧ Same H14 H' ∧ H' dt = some (.tup [.str w, .int i]) ∧ DueC [d, l] H14 ox as.length a y w i) ?_ ?_
      · rintro σ' H16 ⟨dt, w, i, rfl, s16, hdt, hdue⟩
        clear hi s15
        have R16 := R14.same s16
        have e16 := s16 _ _ e14
        have hk16 := hk14.same s16
        have due16 := hdue.same s16
        -- the spoilt books
        refine seq_post (fun σ' H' => σ' = [some (.ref d), some (.ref bl), some (.ref t), some (.int s0.m), some (.int ((as.length : Nat) : Int)), some (.int (a : Int)), none, some (.ref ox), some (.ref wx), some x, some (.ref sp), some (.ref dt), none, none, none, none] ∧ RF c s0 d l bl t ox wx as H H' ∧ KdL [d, l] H' x) ?_ ?_
        · rintro σ' H17 ⟨rfl, R17, hk17⟩
          clear due16 hk16 e16 R16 hdue hdt s16 R14 hk14 e14 hy14 hisi g1 g2 g3 g4
          -- place, less_here
          have hrd17 := R17.rd
          obtain ⟨ras, hras, hrl2⟩ := hrd17
          have hral := Paired.len' hrl2
          rw [List.length_map] at hral
          refine ⟨_, rfl, _, rfl, t, _, rfl, .inl (SqL.of hras), _, _, rfl, rfl, d, l, _, rfl, R17.deal, by rw [List.length_map]; omega, by rw [List.length_map]; omega, fun pl_ H18 fr18 hD18 pl0 pl1 => ?_⟩
          rw [List.length_map, hral] at pl1
          obtain ⟨pl, rfl⟩ : ∃ n : Nat, pl_ = (n : Int) := ⟨pl_.toNat, by omega⟩
          have R18 := R17.draw nbl nt fr18 hD18
          have hk18 := hk17.fr fr18
          have hras18 := fr18 _ _ nt hras
          have k18 : Kt c H17 H18 := fr18.kt R17.deal.nst
          have hrl18 := k18.lots hrl2
          clear k18 hk17 hrl2 hras R17 fr18 hD18
          refine ⟨_, rfl, t, rfl, ⟨_, SqL.of hras18⟩, fun D hDn => lc_fmL ras V.ref (fun _ => true) (fun a y _ => y = V.ref a) (fun _ _ _ _ _ r => r) hras18 hDn (by omega) (fun y hy H' s' Rb kb => kb _ (Same.refl _)) (fun y hy _ H' s' Rq kq => ⟨_, rfl, kq _ _ (Same.refl _) rfl⟩) fun ys H19 s19 hys pp => ?_⟩
          rw [filter_tt] at pp
          have eys := paired_ref pp
          subst eys
          have R19 := R18.same s19
          have hk19 := hk18.same s19
          have hrl19 : Lots H19 ras (s0.rs.map pr) := hrl18.same s19
          have nD1 : D ∉ [d, l] := R18.deal.free hDn
          have nD2 : D ≠ bl := fun z => by rw [z, R18.bl] at hDn; cases hDn
          have nD3 : D ≠ t := fun z => by rw [z, hras18] at hDn; cases hDn
          have hD0 : H D = none := R18.fr.free nD1 hDn
          clear pp hrl18 hras18 hk18 R18 s19 hDn
          refine ⟨_, _, rfl, ?_⟩
          -- bad_here
          refine ⟨_, rfl, _, rfl, _, rfl, (by show 2 ≤ sizeLine; decide), fun b1 hb1 => ⟨_, rfl, _, rfl, (by show 2 ≤ sizeLine; decide), fun b2 hb2 => ?_⟩⟩
          have w1 : Same H19 (upd H19 b1 (.tup [.int (a : Int), .int (a : Int)])) := Same.new hb1
          have w2 : Same (upd H19 b1 (.tup [.int (a : Int), .int (a : Int)])) (upd (upd H19 b1 (.tup [.int (a : Int), .int (a : Int)])) b2 (.tup [.int (a : Int), .int ((as.length : Nat) : Int)])) := Same.new hb2
          have f1 := w2 _ _ (upd_same (H := H19) (a := b1) (o := .tup [.int (a : Int), .int (a : Int)]))
          have f2 : (upd (upd H19 b1 (.tup [.int (a : Int), .int (a : Int)])) b2 (.tup [.int (a : Int), .int ((as.length : Nat) : Int)])) b2 = some (.tup [.int (a : Int), .int ((as.length : Nat) : Int)]) := upd_same
          have W2 := Same.trans w1 w2
          generalize upd (upd H19 b1 (.tup [.int (a : Int), .int (a : Int)])) b2 (.tup [.int (a : Int), .int ((as.length : Nat) : Int)]) = H20 at w2 f1 f2 W2 ⊢
          clear w1 w2 hb1 hb2
          refine ⟨_, rfl, _, rfl, (by show 2 ≤ sizeLine; decide), fun b3 hb3 => ⟨_, rfl, (by show 1 ≤ sizeLine; decide), fun b4 hb4 => ?_⟩⟩
          have w1 : Same H20 (upd H20 b3 (.tup [.int (-1), .int (a : Int)])) := Same.new hb3
          have w2 : Same (upd H20 b3 (.tup [.int (-1), .int (a : Int)])) (upd (upd H20 b3 (.tup [.int (-1), .int (a : Int)])) b4 (.tup [.int (a : Int)])) := Same.new hb4
          have f3 := w2 _ _ (upd_same (H := H20) (a := b3) (o := .tup [.int (-1), .int (a : Int)]))
          have f4 : (upd (upd H20 b3 (.tup [.int (-1), .int (a : Int)])) b4 (.tup [.int (a : Int)])) b4 = some (.tup [.int (a : Int)]) := upd_same
          have W4 := Same.trans w1 w2
          generalize upd (upd H20 b3 (.tup [.int (-1), .int (a : Int)])) b4 (.tup [.int (a : Int)]) = H21 at w2 f3 f4 W4 ⊢
          clear w1 w2 hb3 hb4
          refine ⟨_, rfl, _, rfl, _, rfl, (by show 3 ≤ sizeLine; decide), fun b5 hb5 => ⟨_, rfl, (by show 2 ≤ sizeLine; decide), fun b6 hb6 => ?_⟩⟩
          have w1 : Same H21 (upd H21 b5 (.tup [.int (a : Int), .int (a : Int), .int (a : Int)])) := Same.new hb5
          have w2 : Same (upd H21 b5 (.tup [.int (a : Int), .int (a : Int), .int (a : Int)])) (upd (upd H21 b5 (.tup [.int (a : Int), .int (a : Int), .int (a : Int)])) b6 (.tup [.bl true, .int (a : Int)])) := Same.new hb6
          have f5 := w2 _ _ (upd_same (H := H21) (a := b5) (o := .tup [.int (a : Int), .int (a : Int), .int (a : Int)]))
          have f6 : (upd (upd H21 b5 (.tup [.int (a : Int), .int (a : Int), .int (a : Int)])) b6 (.tup [.bl true, .int (a : Int)])) b6 = some (.tup [.bl true, .int (a : Int)]) := upd_same
          have W6 := Same.trans w1 w2
          generalize upd (upd H21 b5 (.tup [.int (a : Int), .int (a : Int), .int (a : Int)])) b6 (.tup [.bl true, .int (a : Int)]) = H22 at w2 f5 f6 W6 ⊢
          clear w1 w2 hb5 hb6
          refine ⟨(by show 9 ≤ sizeLine; decide), fun ol hol => ?_⟩
          have w7 := Same.new (o := .lst [.ref b1, .ref b2, .ref b3, .ref b4, .non, .ref b5, .bl true, .str "ab", .ref b6]) hol
          have W := Same.trans (Same.trans (Same.trans W2 W4) W6) w7
          have f1 := w7 _ _ (W6 _ _ (W4 _ _ f1))
          have f2 := w7 _ _ (W6 _ _ (W4 _ _ f2))
          have f3 := w7 _ _ (W6 _ _ f3)
          have f4 := w7 _ _ (W6 _ _ f4)
          have f5 := w7 _ _ f5
          have f6 := w7 _ _ f6
          have eol : (upd H22 ol (.lst [.ref b1, .ref b2, .ref b3, .ref b4, .non, .ref b5, .bl true, .str "ab", .ref b6])) ol = some (.lst [.ref b1, .ref b2, .ref b3, .ref b4, .non, .ref b5, .bl true, .str "ab", .ref b6]) := upd_same
          have R23 := R19.same W
          have hk23 := hk19.same W
          have hD23 := W _ _ hys
          have hrl23 := hrl19.same W
          have nol : ol ∉ [d, l] := (R19.same (Same.trans (Same.trans W2 W4) W6)).deal.free hol
          generalize upd H22 ol (.lst [.ref b1, .ref b2, .ref b3, .ref b4, .non, .ref b5, .bl true, .str "ab", .ref b6]) = H23 at w7 f1 f2 f3 f4 f5 f6 eol R23 hk23 hD23 hrl23 W ⊢
          clear W W2 W4 W6 w7 hol R19 hk19 hys hrl19
          have hnn : s0.n = ((as.length : Nat) : Int) := by show ((s0.bs.length : Nat) : Int) = _; rw [hlen]
          refine ⟨d, l, ol, _, rfl, R23.deal, .inl eol, nol, by show 1 ≤ 9; omega, by show 9 ≤ 1000; omega, fun i9 z H24 hz fr24 hD24 => ?_⟩
          have hbad23 : BadR [d, l] H23 s0.n (s0.rs.take pl) z := by
            have hm := List.mem_of_getElem? hz
            simp only [List.mem_cons, List.not_mem_nil, or_false] at hm
            rcases hm with rfl | rfl | rfl | rfl | rfl | rfl | rfl | rfl | rfl
            · exact .inr (.inr (.inr ⟨b1, ((a : Int), (a : Int)), rfl, f1, by show (0 : Int) ≤ (a : Int); omega, by show (a : Int) < s0.n; omega, by show (0 : Int) ≤ (a : Int); omega, by show (a : Int) < s0.n; omega, .inl rfl⟩))
            · refine .inr (.inr (.inl ⟨b2, _, _, rfl, f2, fun _ => trivial, fun _ => trivial, ?_⟩))
              rw [isB_off (i := ((as.length : Nat) : Int)) (.inr (by omega)), Bool.and_false]
            · refine .inr (.inr (.inl ⟨b3, _, _, rfl, f3, fun _ => trivial, fun _ => trivial, ?_⟩))
              rw [isB_off (i := -1) (.inl (by omega)), Bool.false_and]
            · exact .inr (.inl ⟨b4, _, rfl, f4, by show 1 ≠ 2; omega⟩)
            · exact .inl (.inl rfl)
            · exact .inr (.inl ⟨b5, _, rfl, f5, by show 3 ≠ 2; omega⟩)
            · exact .inl (.inr (.inl rfl))
            · exact .inl (.inr (.inr ⟨_, rfl⟩))
            · exact .inr (.inr (.inl ⟨b6, _, _, rfl, f6, fun _ => trivial, fun _ => trivial, rfl⟩))
          have R24 := R23.draw nbl nt fr24 hD24
          have hk24 := hk23.fr fr24
          have hD24' := fr24 _ _ nD1 hD23
          have k24 : Kt c H23 H24 := fr24.kt R23.deal.nst
          have hrl24 := k24.lots hrl23
          have bad24 := hbad23.kt k24
          clear k24 hbad23 hz f1 f2 f3 f4 f5 f6 eol nol R23 hk23 hD23 hrl23 fr24 hD24
          -- an earlier road
          dsimp only
          refine seq_post (fun σ' H' => ∃ z : V, σ' = [some (.ref d), some (.ref bl), some (.ref t), some (.int s0.m), some (.int ((as.length : Nat) : Int)), some (.int (a : Int)), none, some (.ref ox), some (.ref wx), some x, some (.ref sp), some (.ref dt), none, some (.int (pl : Int)), some (.ref D), some z] ∧ RF c s0 d l bl t ox wx as H H' ∧ KdL [d, l] H' x ∧ H' D = some (.lst (ras.map V.ref)) ∧ Lots H' ras (s0.rs.map pr) ∧ BadR [d, l] H' s0.n (s0.rs.take pl) z) ?_ ?_
          · clear bad24 hrl24 hD24' hk24 R24
            rintro σ' H25 ⟨z, rfl, R25, hk25, hD25, hrl25, bad25⟩
            refine ⟨_, rfl, .inl ⟨rfl, _, SqL.of hD25⟩, _, rfl, _, rfl, D, _, _, _, rfl, rfl, hD25, by rw [List.length_map]; exact small_lt (by omega), by omega, by omega, ?_⟩
            rw [Int.toNat_natCast]
            have R26 := R25.upd hD25 nD2 nD3 nD1 hD0 (.lst ((ras.map V.ref).take pl ++ [z] ++ (ras.map V.ref).drop pl))
            have kk : Kt c H25 (upd H25 D (.lst ((ras.map V.ref).take pl ++ [z] ++ (ras.map V.ref).drop pl))) := Kt.upd hD25
            have hD26 : (upd H25 D (.lst ((ras.map V.ref).take pl ++ [z] ++ (ras.map V.ref).drop pl))) D = some (.lst ((ras.map V.ref).take pl ++ [z] ++ (ras.map V.ref).drop pl)) := upd_same
            have bad26 := bad25.kt kk
            have hrl26 := kk.lots hrl25
            have hflat : ∀ {Hq}, Same (upd H25 D (.lst ((ras.map V.ref).take pl ++ [z] ++ (ras.map V.ref).drop pl))) Hq → Kd Hq x := fun {Hq} sq => by
              rcases hk25 with h | ⟨q, xs', rfl, h, _⟩
              · exact h Hq
              · by_cases e : q = D
                · subst e
                  exact ⟨_, .inl (sq _ _ upd_same)⟩
                · refine ⟨xs', h.imp (fun h => sq _ _ ?_) fun h => sq _ _ ?_⟩ <;> (rw [upd_ne e]; exact h)
            generalize upd H25 D (.lst ((ras.map V.ref).take pl ++ [z] ++ (ras.map V.ref).drop pl)) = H26 at R26 kk hD26 bad26 hrl26 hflat ⊢
            clear bad25 hrl25 hD25 hk25 R25 kk
            dsimp only
            refine seq_post (fun σ' H' => σ' = [some (.ref d), some (.ref bl), some (.ref t), some (.int s0.m), some (.int ((as.length : Nat) : Int)), some (.int (a : Int)), none, some (.ref ox), some (.ref wx), some x, some (.ref sp), some (.ref dt), none, some (.int (pl : Int)), some (.ref D), some z] ∧ RF c s0 d l bl t ox wx as H H') ?_ ?_
            · clear hflat bad26 hrl26 hD26 R26
              rintro σ' H27 ⟨rfl, R27⟩
              refine ⟨_, rfl, (by show 1 ≤ sizeLine; decide), fun b1 hb1 => ⟨(by show 2 ≤ sizeLine; decide), fun p1 hp1 => ⟨(by show 1 ≤ sizeLine; decide), fun r1 hr1 => ?_⟩⟩⟩
              have y1 : Same H27 (upd H27 b1 (.lst [.ref wx])) := Same.new hb1
              have y2 : Same (upd H27 b1 (.lst [.ref wx])) (upd (upd H27 b1 (.lst [.ref wx])) p1 (.tup [.int 0, .int 1])) := Same.new hp1
              have y3 : Same (upd (upd H27 b1 (.lst [.ref wx])) p1 (.tup [.int 0, .int 1])) (upd (upd (upd H27 b1 (.lst [.ref wx])) p1 (.tup [.int 0, .int 1])) r1 (.lst [.ref p1])) := Same.new hr1
              have eb := (Same.trans y2 y3) _ _ (upd_same (H := H27) (a := b1) (o := .lst [.ref wx]))
              have ep := y3 _ _ (upd_same (H := upd H27 b1 (.lst [.ref wx])) (a := p1) (o := .tup [.int 0, .int 1]))
              have er : (upd (upd (upd H27 b1 (.lst [.ref wx])) p1 (.tup [.int 0, .int 1])) r1 (.lst [.ref p1])) r1 = some (.lst [.ref p1]) := upd_same
              have R28 := R27.same ((Same.trans y1 y2).trans y3)
              generalize upd (upd (upd H27 b1 (.lst [.ref wx])) p1 (.tup [.int 0, .int 1])) r1 (.lst [.ref p1]) = H28 at y3 eb ep er R28 ⊢
              refine ⟨_, _, "roads", 0, rfl, built_wild R28 eb er ep, fun t1 H29 s29 ht1 => ⟨(by show 2 ≤ sizeLine; decide), fun e2 he2 => ?_⟩⟩
              have sv2 := Same.new (o := .tup [.str "roads", .int 0]) he2
              refine ⟨.tuple [.str "roads", .int 0], .tuple [.str "roads", .int 0], dp_wi (sv2 _ _ ht1), dp_wi upd_same, sh_wi _ _, sh_wi _ _, _, rfl, ?_⟩
              rw [eqv_self _ (sh_wi _ _)]
              have R30 := (R28.same s29).same sv2
              generalize upd H29 e2 (.tup [.str "roads", .int 0]) = H30 at R30 ⊢
              refine iteF ⟨_, rfl, (by show 1 ≤ sizeLine; decide), fun b2 hb2 => ⟨(by show 0 ≤ sizeLine; decide), fun r2 hr2 => ?_⟩⟩
              have v1 : Same H30 (upd H30 b2 (.lst [.ref wx])) := Same.new hb2
              have v2 : Same (upd H30 b2 (.lst [.ref wx])) (upd (upd H30 b2 (.lst [.ref wx])) r2 (.tup [])) := Same.new hr2
              have R31 := R30.same (Same.trans v1 v2)
              refine ⟨_, _, "steady", -1, rfl, built_wild2 R31 (v2 _ _ upd_same) upd_same, fun t2 H32 s32 ht2 => ⟨_, rfl, (by show 2 ≤ sizeLine; decide), fun e3 he3 => ?_⟩⟩
              have sv3 := Same.new (o := .tup [.str "steady", .int (-1)]) he3
              refine ⟨.tuple [.str "steady", .int (-1)], .tuple [.str "steady", .int (-1)], dp_wi (sv3 _ _ ht2), dp_wi upd_same, sh_wi _ _, sh_wi _ _, _, rfl, ?_⟩
              rw [eqv_self _ (sh_wi _ _)]
              exact iteF (k _ ((R31.same s32).same sv3).fr)
            · intro R kR
              refine ⟨_, rfl, _, rfl, _, _, "roads", _, rfl, built_road R26 hok (by omega) sz hD26 hrl26 (by omega) bad26, fun t1 H27 s27 ht1 => ⟨_, rfl, (by show 2 ≤ sizeLine; decide), fun e2 he2 => ?_⟩⟩
              have sv2 := Same.new (o := .tup [.str "roads", .int (pl : Int)]) he2
              refine ⟨.tuple [.str "roads", .int (pl : Int)], .tuple [.str "roads", .int (pl : Int)], dp_wi (sv2 _ _ ht1), dp_wi upd_same, sh_wi _ _, sh_wi _ _, _, rfl, ?_⟩
              rw [eqv_self _ (sh_wi _ _)]
              have R28 := (R26.same s27).same sv2
              have fl2 := hflat (s27.trans sv2)
              generalize upd H27 e2 (.tup [.str "roads", .int (pl : Int)]) = H28 at R28 fl2 ⊢
              have seven : ∀ y : V, Kd H28 y → isS y = false → BuiltCase c H28 (.ref bl) y "roads" (-1) := fun y h1 h2 => built_seven R28 (by omega) sz ⟨h1, h2⟩
              refine iteF ⟨_, rfl, _, rfl, rfl, _, rfl, ?_⟩
              by_cases cx : x = .non
              · rw [decide_eq_true cx]
                refine iteT ⟨_, rfl, _, _, "roads", -1, rfl, seven x fl2 (by rw [cx]; rfl), fun t2 H29 s29 ht2 => ⟨_, rfl, (by show 2 ≤ sizeLine; decide), fun e3 he3 => ?_⟩⟩
                have sv3 := Same.new (o := .tup [.str "roads", .int (-1)]) he3
                refine ⟨.tuple [.str "roads", .int (-1)], .tuple [.str "roads", .int (-1)], dp_wi (sv3 _ _ ht2), dp_wi upd_same, sh_wi _ _, sh_wi _ _, _, rfl, ?_⟩
                rw [eqv_self _ (sh_wi _ _)]
                exact iteF (kR _ _ ⟨rfl, (R28.same s29).same sv3⟩)
              · rw [decide_eq_false cx]
                refine iteF ⟨_, _, "roads", -1, rfl, seven (.int 7) trivial rfl, fun t2 H29 s29 ht2 => ⟨_, rfl, (by show 2 ≤ sizeLine; decide), fun e3 he3 => ?_⟩⟩
                have sv3 := Same.new (o := .tup [.str "roads", .int (-1)]) he3
                refine ⟨.tuple [.str "roads", .int (-1)], .tuple [.str "roads", .int (-1)], dp_wi (sv3 _ _ ht2), dp_wi upd_same, sh_wi _ _, sh_wi _ _, _, rfl, ?_⟩
                rw [eqv_self _ (sh_wi _ _)]
                exact iteF (kR _ _ ⟨rfl, (R28.same s29).same sv3⟩)
          · intro R kR
            refine ⟨_, rfl, _, _, rfl, rfl, _, rfl, ?_⟩
            by_cases c0 : 0 < pl
            · rw [decide_eq_true (show ((pl : Int) > 0) by omega)]
              refine iteT ⟨_, rfl, d, l, 3, rfl, R24.deal, by omega, by omega, fun r3 H25 fr25 hD25 _ _ => ⟨rfl, _, rfl, ?_⟩⟩
              have R25 := R24.draw nbl nt fr25 hD25
              have k25 : Kt c H24 H25 := fr25.kt R24.deal.nst
              have hD25' := fr25 _ _ nD1 hD24'
              have hrl25 := k25.lots hrl24
              have hk25 := hk24.fr fr25
              have bad25 := bad24.kt k25
              refine ite2 (fun _ => ?_) (fun _ => kR _ _ ⟨z, rfl, R25, hk25, hD25', hrl25, bad25⟩)
              refine ⟨_, rfl, _, rfl, _, rfl, d, l, (pl : Int), rfl, R25.deal, by omega, by omega, fun j_ H26 fr26 hD26 j0 j1 => ?_⟩
              obtain ⟨j, rfl⟩ : ∃ n : Nat, j_ = (n : Int) := ⟨j_.toNat, by omega⟩
              have R26 := R25.draw nbl nt fr26 hD26
              have k26 : Kt c H25 H26 := fr26.kt R25.deal.nst
              have hD26' := fr26 _ _ nD1 hD25'
              have hrl26 := k26.lots hrl25
              obtain ⟨b, hb⟩ : ∃ b, ras[j]? = some b := ⟨_, List.getElem?_eq_getElem (by omega)⟩
              obtain ⟨ss, hss, hbt⟩ := Paired.at hrl26 hb
              rw [List.getElem?_map] at hss
              obtain ⟨p, hp, rfl⟩ := Option.map_eq_some_iff.mp hss
              have hpin : p ∈ s0.rs.take pl := List.mem_of_getElem? (show (s0.rs.take pl)[j]? = some p by rw [List.getElem?_take, if_pos (by omega)]; exact hp)
              have hpr := hok.rds.2.2 p (List.mem_of_getElem? hp)
              unfold RdOk at hpr
              exact ⟨D, _, _, _, rfl, rfl, .inl (SqL.of hD26'), atI_nat (map_at hb), kR _ _ ⟨_, rfl, R26, hk25.fr fr26, hD26', hrl26, .inr (.inr (.inr ⟨b, p, rfl, hbt, hpr.1, hpr.2.1, hpr.2.2.1, hpr.2.2.2.1, .inr hpin⟩))⟩⟩
            · rw [decide_eq_false (show ¬ ((pl : Int) > 0) by omega)]
              exact iteF (kR _ _ ⟨z, rfl, R24, hk24, hD24', hrl24, bad24⟩)
        · intro R kR
          refine ⟨_, rfl, (by show 2 ≤ sizeLine; decide), fun p hp => ⟨(by show 1 ≤ sizeLine; decide), fun r hr' => ?_⟩⟩
          have y1 : Same H16 (upd H16 p (.tup [.int 0, .int 0])) := Same.new hp
          have y2 : Same (upd H16 p (.tup [.int 0, .int 0])) (upd (upd H16 p (.tup [.int 0, .int 0])) r (.lst [.ref p])) := Same.new hr'
          have Y2 := Same.trans y1 y2
          have ep := y2 _ _ (upd_same (H := H16) (a := p) (o := .tup [.int 0, .int 0]))
          have er : (upd (upd H16 p (.tup [.int 0, .int 0])) r (.lst [.ref p])) r = some (.lst [.ref p]) := upd_same
          generalize upd (upd H16 p (.tup [.int 0, .int 0])) r (.lst [.ref p]) = Hy at y2 Y2 ep er ⊢
          have RY := R16.same Y2
          have bc : BuiltCase c Hy (.ref sp) (.ref r) w i := built_spoilt RY (a := a) (y := y) (p := p) (by rw [hxs]; exact Y2 _ _ e16) at1' sz er ep (due16.same Y2)
          refine ⟨_, _, w, i, rfl, bc, fun bt Hz sz' hbt => ⟨_, rfl, .tuple [.str w, .int i], .tuple [.str w, .int i], dp_wi hbt, dp_wi (sz' _ _ (Y2 _ _ hdt)), sh_wi _ _ hdue.ok, sh_wi _ _ hdue.ok, _, rfl, ?_⟩⟩
          rw [eqv_self _ (sh_wi _ _ hdue.ok)]
          have RZ := RY.same sz'
          have hkZ := (hk16.same Y2).same sz'
          refine iteF ⟨_, rfl, (by show 0 ≤ sizeLine; decide), fun tp htp => ⟨(by show 0 ≤ sizeLine; decide), fun l0 hl0 => ⟨_, rfl, _, rfl, ?_⟩⟩⟩
          have x1 : Same Hz (upd Hz tp (.tup [])) := Same.new htp
          have x2 : Same (upd Hz tp (.tup [])) (upd (upd Hz tp (.tup [])) l0 (.lst [])) := Same.new hl0
          have etp := x2 _ _ (upd_same (H := Hz) (a := tp) (o := .tup []))
          have el0 : (upd (upd Hz tp (.tup [])) l0 (.lst [])) l0 = some (.lst []) := upd_same
          have RX := RZ.same (Same.trans x1 x2)
          have hkX := hkZ.same (Same.trans x1 x2)
          have nl0 : l0 ∉ [d, l] := (RZ.same x1).deal.free hl0
          generalize upd (upd Hz tp (.tup [])) l0 (.lst []) = Hx at x2 etp el0 RX hkX ⊢
          clear x1 x2 hl0 htp
          refine ⟨bl, _, rfl, SqL.of RX.bl, fun q1 hq1 => ?_⟩
          rw [show (cutV (as.map V.ref) none (some 1)) = (as.take 1).map V.ref from cutNf V.ref as 1]
          have x3 : Same Hx (upd Hx q1 (.lst ((as.take 1).map V.ref))) := Same.new hq1
          have l1 : ((as.take 1).map V.ref).length = 1 := by rw [List.length_map, List.length_take]; omega
          refine ⟨q1, 7, _, rfl, rfl, upd_same, by decide, by decide, by rw [l1]; exact small_k (by decide), fun q2 hq2 => ⟨(by show 5 ≤ sizeLine; decide), fun ol hol => ?_⟩⟩
          have x4 := Same.new (o := .lst (List.replicate (7 : Int).toNat ((as.take 1).map V.ref)).flatten) hq2
          have x5 := Same.new (o := .lst [.ref tp, .ref l0, .ref q2, .non, .int 5]) hol
          have X5 := Same.trans (Same.trans x3 x4) x5
          have eq2 := x5 _ _ (upd_same (H := upd Hx q1 (.lst ((as.take 1).map V.ref))) (a := q2) (o := .lst (List.replicate (7 : Int).toNat ((as.take 1).map V.ref)).flatten))
          have nq2 : q2 ∉ [d, l] := (RX.same x3).deal.free hq2
          have nol : ol ∉ [d, l] := (RX.same (Same.trans x3 x4)).deal.free hol
          have ln : (List.replicate (7 : Int).toNat ((as.take 1).map V.ref)).flatten.length = 7 := by
            rw [show (7 : Int).toNat = 7 from rfl, List.length_flatten, List.map_replicate, l1]; rfl
          refine ⟨d, l, ol, _, rfl, (RX.same X5).deal, .inl upd_same, nol, by show 1 ≤ 5; omega, by show 5 ≤ 1000; omega, fun i2 z Hw hz frw hDw => ?_⟩
          have RW := (RX.same X5).draw nbl nt frw hDw
          have hnb : NoBks Hw z := by
            have hm := List.mem_of_getElem? hz
            simp only [List.mem_cons, List.not_mem_nil, or_false] at hm
            rcases hm with rfl | rfl | rfl | rfl | rfl
            · exact .inr (.inr ⟨tp, [], rfl, .inr (frw.tup (RX.same X5).deal (X5 _ _ etp)), .inl rfl⟩)
            · exact .inr (.inr ⟨l0, [], rfl, .inl (frw _ _ nl0 (X5 _ _ el0)), .inl rfl⟩)
            · exact .inr (.inr ⟨q2, _, rfl, .inl (frw _ _ nq2 eq2), .inr (by rw [ln]; omega)⟩)
            · exact .inl rfl
            · exact .inr (.inl rfl)
          refine ⟨z, .int 3, "book", -1, rfl, hnb.bad _, fun b2 Hv sv hb2 => ⟨_, rfl, (by show 2 ≤ sizeLine; decide), fun e2 he2 => ?_⟩⟩
          have sv2 := Same.new (o := .tup [.str "book", .int (-1)]) he2
          refine ⟨.tuple [.str "book", .int (-1)], .tuple [.str "book", .int (-1)], dp_wi (sv2 _ _ hb2), dp_wi upd_same, sh_wi _ _, sh_wi _ _, _, rfl, ?_⟩
          rw [eqv_self _ (sh_wi _ _)]
          exact iteF (kR _ _ ⟨rfl, (RW.same sv).same sv2, (((hkX.same X5).fr frw).same sv).same sv2⟩)
      · intro R kR
        refine ⟨_, rfl, rfl, _, rfl, ?_⟩
        rw [dec_int]
        by_cases c1 : as.length = 1
        · have ha0 : a = 0 := by omega
          subst ha0
          rw [show (((as.length : Nat) : Int) == 1) = true from by simp [c1]]
          obtain ⟨u, hu1, hu2⟩ := hisi s15
          refine iteT ⟨_, rfl, sp, _, _, _, rfl, rfl, .inl (SqL.of (s15 _ _ e14)), atI0 g1, _, _, u, _, _, rfl, .own _, hu1, hu2, _, rfl, ?_⟩
          by_cases cy : y = .ref ox
          · rw [decide_eq_true cy]
            exact iteT ⟨(by show 2 ≤ sizeLine; decide), fun d2 hd2 => kR _ _ ⟨d2, "roads", 0, rfl, Same.put s15 hd2, upd_same, .inr ⟨cy, .inr (.inr ⟨rfl, c1, rfl, rfl⟩)⟩⟩⟩
          · rw [decide_eq_false cy]
            rcases hi with ⟨_, _, z, _⟩ | ⟨_, rfl⟩
            · exact absurd z cy
            · exact iteF (kR _ _ ⟨dt, "book", _, rfl, s15, hdt, .inl ⟨hy14.resolve_right cy, rfl, rfl⟩⟩)
        · rw [show (((as.length : Nat) : Int) == 1) = false from by simp; omega]
          refine iteF (kR _ _ ⟨dt, "book", i, rfl, s15, hdt, ?_⟩)
          by_cases cy : y = .ref ox
          · refine .inr ⟨cy, ?_⟩
            rcases hi with ⟨h1, h2, h3, rfl⟩ | ⟨h1, rfl⟩
            · exact .inr (.inl ⟨h1, h2, rfl, rfl⟩)
            · exact .inl ⟨by by_cases z : a = 0; exact absurd ⟨z, by omega, cy⟩ h1; omega, rfl, rfl⟩
          · rcases hi with ⟨h1, h2, h3, rfl⟩ | ⟨h1, rfl⟩
            · exact absurd h3 cy
            · exact .inl ⟨hy14.resolve_right cy, rfl, rfl⟩
    · intro R kR
      refine ⟨_, rfl, rfl, _, rfl, ?_⟩
      rw [dec_int]
      by_cases c0 : a = 0
      · subst c0
        rw [show ((((0 : Nat) : Int)) == 0) = true from rfl]
        refine iteT ⟨_, rfl, _, _, rfl, rfl, _, rfl, ?_⟩
        by_cases c1 : 1 < as.length
        · rw [decide_eq_true (show (((as.length : Nat) : Int) > 1) by omega)]
          obtain ⟨u, hu1, hu2⟩ := hisi (Same.refl _)
          refine iteT ⟨_, rfl, sp, _, _, _, rfl, rfl, .inl (SqL.of e14), atI0 g1, _, _, u, _, _, rfl, .own _, hu1, hu2, _, rfl, ?_⟩
          by_cases cy : y = .ref ox
          · rw [decide_eq_true cy]
            exact iteT ⟨(by show 2 ≤ sizeLine; decide), fun d2 hd2 => kR _ _ ⟨d2, 1, rfl, Same.new hd2, upd_same, .inl ⟨rfl, c1, cy, rfl⟩⟩⟩
          · rw [decide_eq_false cy]
            exact iteF ⟨_, rfl, (by show 2 ≤ sizeLine; decide), fun d2 hd2 => kR _ _ ⟨d2, _, rfl, Same.new hd2, upd_same, .inr ⟨fun z => cy z.2.2, rfl⟩⟩⟩
        · rw [decide_eq_false (show ¬ (((as.length : Nat) : Int) > 1) by omega)]
          exact iteF ⟨_, rfl, (by show 2 ≤ sizeLine; decide), fun d2 hd2 => kR _ _ ⟨d2, _, rfl, Same.new hd2, upd_same, .inr ⟨fun z => c1 z.2.1, rfl⟩⟩⟩
      · rw [show (((a : Int)) == 0) = false from by simp; omega]
        exact iteF ⟨_, rfl, (by show 2 ≤ sizeLine; decide), fun d2 hd2 => kR _ _ ⟨d2, _, rfl, Same.new hd2, upd_same, .inr ⟨fun z => c0 z.1, rfl⟩⟩⟩
end
end Ws
end
section
set_option Elab.async false
set_option linter.all false
set_option maxRecDepth 100000
set_option maxHeartbeats 4000000
namespace Ws
open PySem PySem.Spec PyProof.Rows L2
set_option autoImplicit false
/-! K51: law. -/
/-- two go of each wide lot: none is bad -/
theorem steady_good {m : Int} {k : Nat} {g : List Int → Int} (G : Good m k g) : steadyB m k g = true := by
  have e : badF m k g = [] := by
    unfold badF
    rw [List.filter_eq_nil_iff]
    intro w hw h
    obtain ⟨ok, hl⟩ := mem_rows.mp hw
    obtain ⟨a, b, _, _, _, h2, _, _⟩ := two_at G ok hl
    have hn : (goersF g w).Nodup := (asc_filter _ ok.1).nodup
    have hs : ∀ t ∈ goersF g w, t ∈ [a, b] := fun t ht => by
      obtain ⟨x, hx, e⟩ := List.mem_map.mp (of_decide_eq_true (List.mem_filter.mp ht).2)
      rcases h2 x hx with q | q <;> (rw [q] at e; simp [e])
    have := nodup_len _ _ hn hs
    have h3 := of_decide_eq_true h
    simp only [List.length_cons, List.length_nil] at this
    omega
  unfold steadyB
  rw [e]
  rfl
def rdLt (p q : Int × Int) : Prop := p.1 < q.1 ∨ (p.1 = q.1 ∧ p.2 < q.2)
theorem rdLt.le {p q : Int × Int} (h : rdLt p q) : rdLe p q := h.imp id fun ⟨a, b⟩ => ⟨a, by omega⟩
theorem rdLt.ne {p q : Int × Int} (h : rdLt p q) : p ≠ q := fun e => by
  subst e
  rcases h with h | ⟨_, h⟩ <;> omega
/-- what stands through the whole -/
structure LF (c : Cs) (m : Int) (bs : Bks) (rs : List (Int × Int)) (d l hl bl rl : Addr) (as : List Addr) (H : Hp) : Prop where
  deal : DealAt H [d, l]
  house : HouseAt H m hl bs
  books : H bl = some (.lst (as.map V.ref))
  bks : Paired (BkAt c H m) as bs
  roads : LotL H rl (rs.map pr)
  nd : ∀ a ∈ [hl, bl, rl], a ∉ [d, l]
section
variable {c : Cs} {m : Int} {bs : Bks} {rs : List (Int × Int)} {d l hl bl rl p : Addr} {as : List Addr} {H H' : Hp}
theorem HouseAt.kp (h : HouseAt H m hl bs) (k : Kt c H H') (f : ∀ o, H hl = some o → H' hl = some o) : HouseAt H' m hl bs := by
  obtain ⟨ts, e, p⟩ := h
  exact ⟨ts, f _ e, Paired.map' p fun a b ⟨x, e1, e2⟩ => ⟨x, k.tup e1, k.tab e2⟩⟩
theorem LotL.kp {ss : List (List Int)} (h : LotL H hl ss) (k : Kt c H H') (f : ∀ o, H hl = some o → H' hl = some o) : LotL H' hl ss := by
  obtain ⟨ts, e, p⟩ := h
  exact ⟨ts, f _ e, k.lots p⟩
theorem LF.keep (h : LF c m bs rs d l hl bl rl as H) (k : Kt c H H') (f : ∀ a ∈ [hl, bl, rl], ∀ o, H a = some o → H' a = some o) (e : DealAt H' [d, l]) : LF c m bs rs d l hl bl rl as H' :=
  ⟨e, h.house.kp k (f hl (by simp)), f bl (by simp) _ h.books, k.bks h.bks, h.roads.kp k (f rl (by simp)), h.nd⟩
theorem LF.same (h : LF c m bs rs d l hl bl rl as H) (q : Same H H') : LF c m bs rs d l hl bl rl as H' := h.keep (Same.kt q) (fun a _ o e => q _ _ e) (h.deal.same q)
theorem LF.draw (h : LF c m bs rs d l hl bl rl as H) (q : Fr [d, l] H H') (e : DealAt H' [d, l]) : LF c m bs rs d l hl bl rl as H' := h.keep (q.kt h.deal.nst) (fun a ha o e => q _ _ (h.nd a ha) e) e
theorem LF.upd (h : LF c m bs rs d l hl bl rl as H) {xs : List V} (hp : H p = some (.lst xs)) (n1 : p ∉ [hl, bl, rl]) (n2 : p ∉ [d, l]) (o : HO) : LF c m bs rs d l hl bl rl as (upd H p o) :=
  h.keep (Kt.upd hp) (fun a ha o e => by rw [upd_ne (fun z => n1 (by rw [← z]; exact ha))]; exact e) (h.deal.upd n2)
end
/-- a road that is told, not on M -/
def RdN (M : List Addr) (H : Hp) (x : V) (p : Int × Int) : Prop := ∃ a, x = .ref a ∧ Seq H a [.int p.1, .int p.2] ∧ a ∉ M
theorem RdN.fr {M : List Addr} {H H' : Hp} {x : V} {p : Int × Int} (h : RdN M H x p) (f : Fr M H H') : RdN M H' x p := by
  obtain ⟨a, e, s, n⟩ := h
  exact ⟨a, e, s.elim (fun s => .inl (f _ _ n s)) fun s => .inr (f _ _ n s), n⟩
theorem Fr.mono {M N : List Addr} {H H' : Hp} (f : Fr M H H') (h : ∀ a ∈ M, a ∈ N) : Fr N H H' := fun b o nb e => f b o (fun m => nb (h b m)) e
theorem Fr.one {H : Hp} {p : Addr} (o : HO) : Fr [p] H (upd H p o) := fun b u nb e => by rw [upd_ne (fun z => nb (by rw [z]; simp))]; exact e
theorem Paired.drop' {α β : Type} {F : α → β → Prop} : ∀ {l₁ : List α} {l₂ : List β} (n : Nat), Paired F l₁ l₂ → Paired F (l₁.drop n) (l₂.drop n)
  | _, _, 0, h => h
  | _, _, n + 1, .nil => .nil
  | _, _, n + 1, .cons r t => Paired.drop' n t
theorem perm_ins {α : Type} {l k : List α} {x : α} (n : Nat) (h : l.Perm k) : (l.take n ++ [x] ++ l.drop n).Perm (k ++ [x]) := by
  have e : (l.take n ++ [x] ++ l.drop n).Perm (x :: l) := by
    rw [List.append_assoc, List.singleton_append]
    refine List.perm_middle.trans (List.Perm.cons x ?_)
    rw [List.take_append_drop]
  refine e.trans ((List.Perm.cons x h).trans ?_)
  exact (List.perm_append_singleton x k).symm
theorem LF.alive {c : Cs} {m : Int} {bs : Bks} {rs : List (Int × Int)} {d l hl bl rl : Addr} {as : List Addr} {H : Hp} (h : LF c m bs rs d l hl bl rl as H) : ∀ a ∈ [d, l, hl, bl, rl], H a ≠ none := fun a ha z => by
  obtain ⟨ts, e1, _⟩ := h.house
  obtain ⟨as', e2, _⟩ := h.roads
  have e3 := h.books
  simp only [List.mem_cons, List.not_mem_nil, or_false] at ha
  rcases ha with rfl | rfl | rfl | rfl | rfl
  · exact h.deal.free z (by simp)
  · exact h.deal.free z (by simp)
  · rw [z] at e1; cases e1
  · rw [z] at e3; cases e3
  · rw [z] at e2; cases e2
theorem BooksAt.same {c : Cs} {H H' : Hp} {x : Addr} {xs : List V} (h : BooksAt c H x xs) (q : Same H H') : BooksAt c H' x xs := by
  obtain ⟨dx, fs, bt, e1, e2, e3⟩ := h
  exact ⟨dx, fs, bt, q _ _ e1, e2, q _ _ e3⟩
theorem BooksAt.upd {c : Cs} {H : Hp} {x p : Addr} {xs ys : List V} {o : HO} (h : BooksAt c H x xs) (hp : H p = some (.lst ys)) : BooksAt c (upd H p o) x xs := by
  obtain ⟨dx, fs, bt, e1, e2, e3⟩ := h
  refine ⟨dx, fs, bt, ?_, e2, ?_⟩
  · rw [upd_ne (fun z => by rw [z, hp] at e1; cases e1)]; exact e1
  · rw [upd_ne (fun z => by rw [z, hp] at e3; cases e3)]; exact e3
theorem sorted_lot {K : PySem.W.Frag} {rl : Addr} {H : Hp} {rs : List (Int × Int)} {Q : VK} (h : LotL H rl (rs.map pr)) (asc : rs.Pairwise rdLe) (k : ∀ p H', Same H H' → H p = none → LotL H' p (rs.map pr) → Q (.ref p) H') : rSortedPO K [.ref rl] H Q := by
  obtain ⟨ras, hras, hrl⟩ := h
  refine ⟨rl, _, kPair H, rfl, SqL.of hras, (kPair_map hrl).2, fun ys p h1 h2 hp => ?_⟩
  obtain ⟨bs', rs', rfl, hb1, hb2, hb3⟩ := sort_roads hrl h1 h2
  have ers : rs' = rs := rd_uniq hb2 hb3 asc
  subst ers
  have s1 : Same H (upd H p (.lst (bs'.map V.ref))) := Same.new hp
  exact k p _ s1 hp ⟨bs', upd_same, hb1.same s1⟩
theorem list_tup {K : PySem.W.Frag} {p : Addr} {H : Hp} {ss : List (List Int)} {Q : VK} (h : LotL H p ss) (k : ∀ t H', Same H H' → LotT H' t ss → Q (.ref t) H') : rTupOf K [.ref p] H Q := by
  obtain ⟨as, e, l⟩ := h
  refine ⟨p, _, rfl, .inl ⟨SqL.of e, fun t ht => ?_⟩⟩
  have s1 : Same H (upd H t (.tup (as.map V.ref))) := Same.new ht
  exact k t _ s1 ⟨as, upd_same, l.same s1⟩
theorem rep_unit {K : PySem.W.Frag} {q e : Addr} {n : Nat} {H : Hp} {Q : VK} {bs : Bks} (hq : H q = some (.tup [.ref e])) (he : TupI H e []) (hn : bs.length = n) (n1 : 1 ≤ n) (n4 : n ≤ 4) (k : ∀ t H', Same H H' → LotT H' t (bs.map fun _ => []) → Q (.ref t) H') : rRepU K (.ref q) (.int (n : Int)) H Q := by
  subst hn
  refine ⟨q, _, [.ref e], rfl, rfl, SqT.of hq, (by intro z; cases z), by omega, by omega, by show 1 ≤ 1000; omega, fun e1 => ?_, fun _ t ht => ?_⟩
  · obtain ⟨b, rfl⟩ : ∃ b, bs = [b] := by
      cases bs with
      | nil => cases n1
      | cons b r =>
        cases r with
        | nil => exact ⟨b, rfl⟩
        | cons _ _ => simp only [List.length_cons] at e1; omega
    exact k q H (Same.refl _) ⟨[e], hq, .cons he .nil⟩
  · have s1 : Same H (upd H t (.tup (List.replicate ((bs.length : Nat) : Int).toNat [V.ref e]).flatten)) := Same.new ht
    refine k t _ s1 ⟨List.replicate bs.length e, ?_, lots_rep (s1 _ _ he) bs⟩
    rw [upd_same, Int.toNat_natCast, rep_flat]
/-- two houses that live -/
structure LL (c : Cs) (s : Hs) (d l hl bl rl : Addr) (as : List Addr) (O1 O2 : List Addr) (x x2 : Addr) (ss : List (List Int)) (el la : List (List (List Int))) (H : Hp) : Prop where
  f : LF c s.m s.bs s.rs d l hl bl rl as H
  o1 : O1.head? = some x
  o2 : O2.head? = some x2
  l1 : LiveAt c s H O1 ss el la
  l2 : LiveAt c s H O2 (s.bs.map fun _ => []) [] []
  d1 : ∀ a ∈ O1, a ∉ [d, l, hl, bl, rl]
  d2 : ∀ a ∈ O2, a ∉ [d, l, hl, bl, rl] ∧ a ∉ O1
section
variable {c : Cs} {s : Hs} {d l hl bl rl x x2 : Addr} {as : List Addr} {O1 O2 : List Addr} {ss : List (List Int)} {el la : List (List (List Int))} {H H' : Hp}
theorem LL.same (h : LL c s d l hl bl rl as O1 O2 x x2 ss el la H) (q : Same H H') : LL c s d l hl bl rl as O1 O2 x x2 ss el la H' := ⟨h.f.same q, h.o1, h.o2, h.l1.same q, h.l2.same q, h.d1, h.d2⟩
theorem LL.upd (h : LL c s d l hl bl rl as O1 O2 x x2 ss el la H) {p : Addr} {xs : List V} (hp : H p = some (.lst xs)) (n0 : p ∉ [d, l, hl, bl, rl]) (n1 : p ∉ O1) (n2 : p ∉ O2) (o : HO) : LL c s d l hl bl rl as O1 O2 x x2 ss el la (upd H p o) := by
  have k : Kt c H (L2.upd H p o) := Kt.upd hp
  have ne : ∀ {M : List Addr}, p ∉ M → ∀ a ∈ M, ∀ u, H a = some u → (L2.upd H p o) a = some u := fun {M} n a ha u e => by rw [upd_ne (fun z => n (by rw [← z]; exact ha))]; exact e
  refine ⟨h.f.upd hp (fun z => n0 ?_) (fun z => n0 ?_) o, h.o1, h.o2, h.l1.kt k (ne n1), h.l2.kt k (ne n2), h.d1, h.d2⟩
  · simp only [List.mem_cons] at z ⊢; exact .inr (.inr z)
  · simp only [List.mem_cons, List.not_mem_nil, or_false] at z ⊢; exact z.elim .inl fun z => .inr (.inl z)
end
theorem LL.go {c : Cs} {s : Hs} {d l hl bl rl x x2 : Addr} {as : List Addr} {O1 O2 O' : List Addr} {ss ss' : List (List Int)} {el la el' la' : List (List (List Int))} {H H' : Hp} (h : LL c s d l hl bl rl as O1 O2 x x2 ss el la H) (n : c.CB ≠ c.CL) (fr : Fr (d :: l :: O1) H H') (e : DealAt H' [d, l]) (ow : Own H O1 O') (ho : O'.head? = some x) (lv : LiveAt c s H' O' ss' el' la') : LL c s d l hl bl rl as O' O2 x x2 ss' el' la' H' := by
  have nst : ∀ a ∈ d :: l :: O1, ∃ o, H a = some o ∧ ¬ Still c o := fun a m => by
    simp only [List.mem_cons] at m
    rcases m with rfl | rfl | m
    · exact h.f.deal.nst _ (by simp)
    · exact h.f.deal.nst _ (by simp)
    · exact h.l1.nst n a m
  have k : Kt c H H' := fr.kt nst
  have out : ∀ a ∈ [hl, bl, rl], a ∉ d :: l :: O1 := fun a ha m => by
    simp only [List.mem_cons] at m
    have q := h.f.nd a ha
    rcases m with m | m | m
    · exact q (by simp [m])
    · exact q (by simp [m])
    · exact h.d1 a m (by simp only [List.mem_cons] at ha ⊢; exact .inr (.inr ha))
  have out2 : ∀ a ∈ O2, a ∉ d :: l :: O1 := fun a ha m => by
    simp only [List.mem_cons] at m
    have q := h.d2 a ha
    rcases m with m | m | m
    · exact q.1 (by simp [m])
    · exact q.1 (by simp [m])
    · exact q.2 m
  refine ⟨h.f.keep k (fun a ha o eo => fr _ _ (out a ha) eo) e, ho, h.o2, lv, h.l2.kt k (fun a ha o eo => fr _ _ (out2 a ha) eo), fun a ha => ?_, fun a ha => ⟨(h.d2 a ha).1, fun m => ?_⟩⟩
  · rcases ow a ha with m | m
    · exact h.d1 a m
    · exact fun z => h.f.alive a z m
  · rcases ow a m with m | m
    · exact (h.d2 a ha).2 m
    · exact h.l2.alive a ha m
theorem LL.step {c : Cs} {s : Hs} {d l hl bl rl x x2 : Addr} {as : List Addr} {O1 O2 O' : List Addr} {ss ss' : List (List Int)} {el la el' la' : List (List (List Int))} {H H' : Hp} (h : LL c s d l hl bl rl as O1 O2 x x2 ss el la H) (n : c.CB ≠ c.CL) (fr : Fr O1 H H') (ow : Own H O1 O') (ho : O'.head? = O1.head?) (lv : LiveAt c s H' O' ss' el' la') : LL c s d l hl bl rl as O' O2 x x2 ss' el' la' H' :=
  h.go n (fr.mono fun a ha => List.mem_cons_of_mem _ (List.mem_cons_of_mem _ ha)) (h.f.deal.fr fr (fun m => h.d1 d m (by simp)) (fun m => h.d1 l m (by simp))) ow (ho.trans h.o1) lv
/-- what was heard, aside -/
def HdAt (H : Hp) (he : Addr) (ss : List (List Int)) (O1 : List Addr) (d l : Addr) : Prop := LotL H he ss ∧ he ∉ d :: l :: O1
theorem HdAt.step {c : Cs} {s : Hs} {d l he : Addr} {O1 O' : List Addr} {ss ss' : List (List Int)} {el la : List (List (List Int))} {H H' : Hp} (h : HdAt H he ss O1 d l) (n : c.CB ≠ c.CL) (lv : LiveAt c s H O1 ss' el la) (fr : Fr O1 H H') (ow : Own H O1 O') : HdAt H' he ss O' d l := by
  obtain ⟨h1, h2⟩ := h
  have k : Kt c H H' := fr.kt (lv.nst n)
  refine ⟨k.lotL' fr (fun m => h2 (by simp [m])) h1, fun m => ?_⟩
  simp only [List.mem_cons] at m h2
  rcases m with m | m | m
  · exact h2 (.inl m)
  · exact h2 (.inr (.inl m))
  · rcases ow he m with m | m
    · exact h2 (.inr (.inr m))
    · obtain ⟨as, e, _⟩ := h1
      rw [m] at e; cases e
section
variable {P : Program} {w : World} {K : PySem.W.Frag} {mg : Str → Option Value} {base : Heap} {c : Cs} {f1 f2 f3 f4 : Addr} {t9 t6 : Tok}
theorem ok_law (T : Txt P K mg c.CB c.CL c.C1 c.C2 c.C3 c.C4 f1 f2 f3 f4 t9 t6) (d_Book : Dk P w K mg base CX0 4 c.CB "Book" ["self", "many", "places", "goers"] ["many", "places", "goers"] (sp_Book c)) (d_Live : Dk P w K mg base (L2.CX P w) 8 c.CL "Live" ["self", "books", "roads"] ["books", "roads"] (sp_Live c)) (d_Live_redo_deed : Dm P w K mg base CX0 1 c.CL "redo_deed" ["self"] [] (sp_Live_redo_deed c)) (d_Live_undo_deed : Dm P w K mg base CX0 1 c.CL "undo_deed" ["self"] [] (sp_Live_undo_deed c)) (d__law_alone : Dn P w K mg base CX0 10 "_law_alone" ["_law_house_here", "_law_books", "_law_roads", "_law_hand", "_law_lot"] (sp__law_alone c)) (d__law_any : Dn P w K mg base CX0 1 "_law_any" ["_law_deal", "_law_bound"] (sp__law_any c)) (d__law_deeds : Dn P w K mg base CX0 8 "_law_deeds" ["_law_deal", "_law_live", "_law_house_here", "_law_roads", "_law_many"] (sp__law_deeds c)) (d__law_draw : Dn P w K mg base CX0 1 "_law_draw" ["_law_script", "_law_salt"] (sp__law_draw K c)) (d__law_house : Dn P w K mg base CX0 4 "_law_house" ["_law_deal", "_law_many"] (sp__law_house c)) (d__law_of : Dn P w K mg base CX0 2 "_law_of" ["_law_deal", "_law_some"] (sp__law_of c)) (d__law_refusals : Dn P w K mg base CX0 11 "_law_refusals" ["_law_deal", "_law_books", "_law_roads", "_law_many"] (sp__law_refusals c)) (d__law_refused : Dn P w K mg base CX0 7 "_law_refused" ["_law_live", "_law_word", "_law_values"] (sp__law_refused c)) (d__law_rows : Dn P w K mg base CX0 1 "_law_rows" ["_law_many", "_law_size"] (sp__law_rows c)) {f : Addr} {fd : FuncData} (F : Fun K "law" "law" s_law f fd) : FnOk P w K mg base CX0 12 f fd ["_law_script"] (sp_law K c) := by
  refine F.ok sc_law (fun vs H Q E h => ?_) (fun cdv A outer s H vs Q E hr h => ?_)
  · obtain ⟨a0, ns, rfl, hns, hnl, k⟩ := h
    rfl
  · obtain ⟨a0, ns, rfl, hns, hnl, k⟩ := h
    refine ⟨_, (pss_cons (ps_set (i := 1) sc_law.nd rfl (Or.inr rfl) (pe_dn d__law_draw (hr.mono (by decide)) pA0 (pa_cons (pv 0) (pa_cons pe_int pa_nil))))
    (pss_cons (ps_set (i := 2) sc_law.nd rfl (Or.inl rfl) (pe_op op_add pe_int (pe_dn d__law_any (hr.mono (by decide)) pA0 (pa_cons (pv 1) (pa_cons pe_int pa_nil)))))
    (pss_cons (ps_par (i := 3) (j := 4) (by rfl) sc_law.nd rfl rfl (by decide) rfl rfl (pa_cons (pe_dn d__law_house (hr.mono (by decide)) pA0 (pa_cons (pv 1) (pa_cons (pv 2) pa_nil))) (pa_cons (pe_lst pa_nil) pa_nil)) (by rfl))
    (pss_cons (ps_for PassesOwn.never rfl (pi_range1 rfl T.g_range (pa_cons (pe_callB (call_lenA (K := K) rfl) (by rfl) T.g_len (by decide +kernel) (pa_cons (pv 3) pa_nil)) pa_nil)) (pg_name (i := 5) sc_law.nd rfl (Or.inr rfl))
    (pss_one (ps_set (i := 4) sc_law.nd rfl (Or.inl rfl) (pe_op op_cat (pv 4) (pe_lc (own := [("_law_to", 6)]) (g := (gName 6)) rfl sc_law.nd (pi_range1 rfl T.g_range (pa_cons (pe_callB (call_lenA (K := K) rfl) (by rfl) T.g_len (by decide +kernel) (pa_cons (pv 3) pa_nil)) pa_nil)) (blkOk_by (N := ["_law_script", "_law_deal", "_law_many", "_law_house_here", "_law_roads", "_law_hand", "_law_to", "_law_books", "_law_places", "_law_table_here", "_law_lot", "_law_mixed", "_law_road", "_law_one", "_law_given", "_law_live", "_law_twin", "_law_good", "_law_heard"]) (sc := defScope s_law) (by decide +kernel)) (fun _ _ _ _ _ => (pg_name (i := 6) sc_law.nd rfl (Or.inl rfl))) (fun _ _ _ _ _ => (pts_one (PW.pt (pw_and (pt_cmpR op_ne (pv 6) (pv 5) (nomark _)) (pw_and1 (pt_cmpR op_eq (pe_dn d__law_any (hr.mono (by decide)) pA0 (pa_cons (pv 1) (pa_cons pe_int pa_nil))) pe_int (nomark _))))))) (fun _ _ _ _ _ => (pe_tup (pa_cons (pv 5) (pa_cons (pv 6) pa_nil)))))))))
    (pss_cons (ps_set (i := 7) sc_law.nd rfl (Or.inl rfl) (pe_lst pa_nil))
    (pss_cons (ps_for PassesOwn.never rfl (pi_listK (K := K) rfl (pv 3)) (pg_tupK (K := K) rfl rfl (pgs_cons (pg_name (i := 8) sc_law.nd rfl (Or.inl rfl)) (pgs_cons (pg_name (i := 9) sc_law.nd rfl (Or.inr rfl)) pgs_nil)))
    (pss_one (ps_expr (pe_bm PySem.F.plainAttrs_list PySem.F.slot_list_append PySem.F.type_list_append mt_append (pv 7) (pa_cons (pe_dk d_Book (hr.mono (by decide)) pA0 (pa_cons (pv 2) (pa_cons (pv 8) (pa_cons (pe_lc (own := [("_law_lot", 10)]) (g := (gName 10)) (tt := tYes) rfl sc_law.nd (pi_listK (K := K) rfl (pe_dn d__law_rows (hr.mono (by decide)) pA0 (pa_cons (pv 2) (pa_cons (pe_op op_add (pv 8) pe_int) pa_nil)))) (blkOk_by (N := ["_law_script", "_law_deal", "_law_many", "_law_house_here", "_law_roads", "_law_hand", "_law_to", "_law_books", "_law_places", "_law_table_here", "_law_lot", "_law_mixed", "_law_road", "_law_one", "_law_given", "_law_live", "_law_twin", "_law_good", "_law_heard"]) (sc := defScope s_law) (by decide +kernel)) (fun _ _ _ _ _ => (pg_name (i := 10) sc_law.nd rfl (Or.inl rfl))) (fun _ _ _ _ _ => pts_nil) (fun _ _ _ _ _ => (pe_dget (hu_of hr) (pv 9) (pv 10) (fun _ _ => rfl)))) pa_nil)))) pa_nil)))))
    (pss_cons (ps_set (i := 11) sc_law.nd rfl (Or.inl rfl) (pe_lst pa_nil))
    (pss_cons (ps_for PassesOwn.never rfl (pi_listK (K := K) rfl (pv 4)) (pg_name (i := 12) sc_law.nd rfl (Or.inl rfl))
    (pss_one (ps_expr (pe_bm PySem.F.plainAttrs_list PySem.F.slot_list_insert PySem.F.type_list_insert mt_insert (pv 11) (pa_cons (pe_dn d__law_any (hr.mono (by decide)) pA0 (pa_cons (pv 1) (pa_cons (pe_op op_add (pe_callB (call_lenA (K := K) rfl) (by rfl) T.g_len (by decide +kernel) (pa_cons (pv 11) pa_nil)) pe_int) pa_nil))) (pa_cons (pe_dn d__law_of (hr.mono (by decide)) pA0 (pa_cons (pv 1) (pa_cons (pe_lst (pa_cons (pv 12) (pa_cons (pe_callTy (call_listA (K := K) rfl) (by rfl) T.g_list (by decide +kernel) (pa_cons (pv 12) pa_nil)) pa_nil))) pa_nil))) pa_nil))))))
    (pss_cons (ps_setLc (i := 14) (own := [("_law_one", 13)]) (g := (gName 13)) (tt := tYes) rfl sc_law.nd rfl rfl (sw_true rfl rfl rfl (by decide +kernel)) (pi_listK (K := K) rfl (pv 7)) (blkOk_by (N := ["_law_script", "_law_deal", "_law_many", "_law_house_here", "_law_roads", "_law_hand", "_law_to", "_law_books", "_law_places", "_law_table_here", "_law_lot", "_law_mixed", "_law_road", "_law_one", "_law_given", "_law_live", "_law_twin", "_law_good", "_law_heard"]) (sc := defScope s_law) (by decide +kernel)) (fun _ _ _ _ _ => (pg_name (i := 13) sc_law.nd rfl (Or.inl rfl))) (fun _ _ _ _ _ => pts_nil) (fun _ _ _ _ _ => (pv 13)))
    (pss_cons (ps_par (i := 15) (j := 16) (by rfl) sc_law.nd rfl rfl (by decide) rfl rfl (pa_cons (pe_dkK d_Live (hr.mono (by decide)) (pk_cons (pv 14) (pk_cons (pv 11) pk_nil))) (pa_cons (pe_dk d_Live (hr.mono (by decide)) pAL (pa_cons (pe_callTy (call_tupleA (K := K) rfl) (by rfl) T.g_tuple (by decide +kernel) (pa_cons (pv 7) pa_nil)) (pa_cons (pe_callTy (call_tupleA (K := K) rfl) (by rfl) T.g_tuple (by decide +kernel) (pa_cons (pv 4) pa_nil)) pa_nil))) pa_nil)) (by rfl))
    (pss_cons (ps_if (PW.pt (pw_or (pt_cmpR (op_neSame (un0 hr)) (pe_fldK (K := K) rfl (pv 15)) (pe_callTy (call_tupleA (K := K) rfl) (by rfl) T.g_tuple (by decide +kernel) (pa_cons (pv 7) pa_nil)) (nomark _)) (pw_or (pt_cmpR (op_neD hr.units) (pe_fldK (K := K) rfl (pv 15)) (pe_callTy (call_tupleA (K := K) rfl) (by rfl) T.g_tuple (by decide +kernel) (pa_cons (pe_callB cr_sortedPO (by rfl) T.g_sorted (by decide +kernel) (pa_cons (pv 4) pa_nil)) pa_nil)) (nomark _)) (pw_or1 (pt_cmpR (op_neD hr.units) (pe_fldK (K := K) rfl (pv 15)) (pe_op op_repU (pe_tup (pa_cons (pe_tup pa_nil) pa_nil)) (pe_callB (call_lenA (K := K) rfl) (by rfl) T.g_len (by decide +kernel) (pa_cons (pv 7) pa_nil))) (nomark _))))))
    (pss_one (ps_ret pe_bl))
    pss_nil)
    (pss_cons (ps_expr (pe_bm0 PySem.F.plainAttrs_list PySem.F.slot_list_pop PySem.F.type_list_pop mt_pop (pv 14)))
    (pss_cons (ps_expr (pe_bm PySem.F.plainAttrs_list PySem.F.slot_list_append PySem.F.type_list_append mt_append (pv 11) (pa_cons (pe_tup (pa_cons pe_int (pa_cons pe_int pa_nil))) pa_nil)))
    (pss_cons (ps_if (PW.pt (pw_or (pt_cmpR (op_neSame (un0 hr)) (pe_fldK (K := K) rfl (pv 15)) (pe_callTy (call_tupleA (K := K) rfl) (by rfl) T.g_tuple (by decide +kernel) (pa_cons (pv 7) pa_nil)) (nomark _)) (pw_or (pt_cmpR (op_neD hr.units) (pe_fldK (K := K) rfl (pv 15)) (pe_callTy (call_tupleA (K := K) rfl) (by rfl) T.g_tuple (by decide +kernel) (pa_cons (pe_callB cr_sortedPO (by rfl) T.g_sorted (by decide +kernel) (pa_cons (pv 4) pa_nil)) pa_nil)) (nomark _)) (pw_or1 (pt_cmpR op_notBl (pe_dm0 d_Live_undo_deed (pv 15) T.clL (hr.mono (by decide)) pA0) pe_bl (nomark _))))))
    (pss_one (ps_ret pe_bl))
    pss_nil)
    (pss_cons (ps_asg (pe_dn d__law_deeds (hr.mono (by decide)) pA0 (pa_cons (pv 1) (pa_cons (pv 15) (pa_cons (pv 3) (pa_cons (pe_callB cr_sortedPO (by rfl) T.g_sorted (by decide +kernel) (pa_cons (pv 4) pa_nil)) (pa_cons (pv 2) pa_nil)))))) (pg_tupK (K := K) rfl rfl (pgs_cons (pg_name (i := 17) sc_law.nd rfl (Or.inl rfl)) (pgs_cons (pg_name (i := 18) sc_law.nd rfl (Or.inl rfl)) pgs_nil))))
    (pss_cons (ps_if (PW.pt (pw_or (pt_not (pt_val (pv 17))) (pw_or1 (PW.pt (pw_and (pt_cmpR op_isBl (pe_dm0 d_Live_redo_deed (pv 15) T.clL (hr.mono (by decide)) pA0) pe_bl (nomark _)) (pw_and1 (pt_cmpR op_notBl (pe_dm0 d_Live_undo_deed (pv 15) T.clL (hr.mono (by decide)) pA0) pe_bl (nomark _))))))))
    (pss_one (ps_ret pe_bl))
    pss_nil)
    (pss_cons (ps_if (PW.pt (pw_or (pt_cmpR (op_neD hr.units) (pe_fldK (K := K) rfl (pv 16)) (pe_op op_repU (pe_tup (pa_cons (pe_tup pa_nil) pa_nil)) (pe_callB (call_lenA (K := K) rfl) (by rfl) T.g_len (by decide +kernel) (pa_cons (pv 7) pa_nil))) (nomark _)) (pw_or1 (pt_cmpR op_ne (pe_dn d__law_refused (hr.mono (by decide)) pA0 (pa_cons (pv 16) (pa_cons pe_str (pa_cons (pe_tup (pa_cons (pe_callB (call_lenA (K := K) rfl) (by rfl) T.g_len (by decide +kernel) (pa_cons (pv 7) pa_nil)) pa_nil)) pa_nil)))) pe_str (nomark _)))))
    (pss_one (ps_ret pe_bl))
    pss_nil)
    (pss_cons (ps_set (i := 5) sc_law.nd rfl (Or.inr rfl) (pe_dn d__law_any (hr.mono (by decide)) pA0 (pa_cons (pv 1) (pa_cons (pe_callB (call_lenA (K := K) rfl) (by rfl) T.g_len (by decide +kernel) (pa_cons (pv 3) pa_nil)) pa_nil))))
    (pss_cons (ps_set (i := 10) sc_law.nd rfl (Or.inl rfl) (pe_ifExp (pt_cmpR op_eq (pe_dn d__law_any (hr.mono (by decide)) pA0 (pa_cons (pv 1) (pa_cons pe_int pa_nil))) pe_int (nomark _)) (pe_ix (ix_A (K := K) rfl) (pv 18) (pv 5) (fun _ _ => rfl)) (pe_tupRg rfl rfl T.g_tuple (prg_1 rfl T.g_range (pv 2)))))
    (pss_cons (ps_if (pt_not (pt_val (pe_dn d__law_alone (hr.mono (by decide)) pA0 (pa_cons (pv 3) (pa_cons (pv 7) (pa_cons (pv 4) (pa_cons (pv 5) (pa_cons (pv 10) pa_nil))))))))
    (pss_one (ps_ret pe_bl))
    pss_nil)
    (pss_one (ps_ret (pe_dn d__law_refusals (hr.mono (by decide)) pA0 (pa_cons (pv 1) (pa_cons (pv 7) (pa_cons (pv 4) (pa_cons (pv 2) pa_nil))))))))))))))))))))))))))), ?_⟩
    refine ⟨_, rfl, a0, ns, 54, rfl, hns, hnl, by omega, by omega, fun d l H1 s1 hd0 hl0 hD1 => ?_⟩
    clear hd0 hl0 s1 hns hnl
    refine ⟨_, rfl, d, l, 3, rfl, hD1, by omega, by omega, fun r3 H2 fr2 hD2 r30 r31 => ⟨_, _, rfl, rfl, ?_⟩⟩
    have hm3 : 3 ≤ 3 + r3 := by omega
    have hm5 : 3 + r3 ≤ 5 := by omega
    try dsimp only
    generalize 3 + r3 = m at hm3 hm5 ⊢
    clear fr2 hD1 r30 r31
    refine ⟨_, rfl, _, rfl, d, l, m, rfl, hD2, hm3, hm5, fun hl bs H3 fr3 hD3 hhl hh hbs hb1 hb4 => ⟨Nat.zero_le _, fun rl0 hrl0 => ⟨_, _, rfl, ?_⟩⟩⟩
    have nhl : hl ∉ [d, l] := hD2.free hhl
    have s4 : Same H3 (upd H3 rl0 (.lst [])) := Same.new hrl0
    have erl : (upd H3 rl0 (.lst [])) rl0 = some (.lst []) := upd_same
    have nrl0 : rl0 ∉ [d, l] := hD3.free hrl0
    have hD4 := hD3.same s4
    have hh4 := hh.same s4
    clear hh hD3 fr3 hhl hD2
    generalize upd H3 rl0 (.lst []) = H4 at s4 erl hD4 hh4 ⊢
    clear s4 hrl0
    have hhts := hh4
    obtain ⟨ts, hts, hent⟩ := hhts
    have htl := Paired.len' hent
    try dsimp only
    refine seq_post (fun σ' H' => ∃ (rl : Addr) (v5 : Option V) (rs : List (Int × Int)), σ' = [some (.ref a0), some (.ref d), some (.int m), some (.ref hl), some (.ref rl), v5, none, none, none, none, none, none, none, none, none, none, none, none, none] ∧ DealAt H' [d, l] ∧ HouseAt H' m hl bs ∧ rl ∉ [d, l] ∧ LotL H' rl (rs.map pr) ∧ rs.length ≤ 16 ∧ (∀ p ∈ rs, RdOk bs.length p) ∧ rs.Pairwise rdLt) ?_ ?_
    · rintro σ' H5 ⟨rl, v5, rs, rfl, hD5, hh5, nrl, hrl5, hr16, hrok, hrpw⟩
      clear hent hts htl hh4 hD4 erl nrl0 ts H4
      refine ⟨Nat.zero_le _, fun bl hbl => ?_⟩
      have nbl : bl ∉ [d, l] := hD5.free hbl
      have hhts := hh5
      obtain ⟨ts, hts, hent⟩ := hhts
      have htl := Paired.len' hent
      have s6 : Same H5 (upd H5 bl (.lst [])) := Same.new hbl
      have ebl6 : (upd H5 bl (.lst [])) bl = some (.lst []) := upd_same
      generalize upd H5 bl (.lst []) = H6 at s6 ebl6 ⊢
      try dsimp only
      refine seq_post (fun σ' H' => ∃ (v8 v9 : Option V) (as : List Addr), σ' = [some (.ref a0), some (.ref d), some (.int m), some (.ref hl), some (.ref rl), v5, none, some (.ref bl), v8, v9, none, none, none, none, none, none, none, none, none] ∧ LF c m bs rs d l hl bl rl as H') ?_ ?_
      · rintro σ' H7 ⟨v8, v9, as, rfl, L7⟩
        clear hent hts htl ebl6 s6 hrl5 hh5 hD5 ts H6
        have hall : ∀ a ∈ [d, l, hl, bl, rl], H7 a ≠ none := L7.alive
        refine ⟨Nat.zero_le _, fun ml hml => ?_⟩
        have nml : ml ∉ [d, l, hl, bl, rl] := fun z => hall ml z hml
        have s8 : Same H7 (upd H7 ml (.lst [])) := Same.new hml
        have eml : (upd H7 ml (.lst [])) ml = some (.lst []) := upd_same
        have L8 := L7.same s8
        generalize upd H7 ml (.lst []) = H8 at s8 eml L8 ⊢
        clear L7 s8 hml hall
        have hrd8 := L8.roads
        obtain ⟨ras, hras, hrl2⟩ := hrd8
        have hral := Paired.len' hrl2
        rw [List.length_map] at hral
        have nm2 : ml ∉ [hl, bl, rl] := fun z => nml (by simp only [List.mem_cons] at z ⊢; exact .inr (.inr z))
        have nm1 : ml ∉ [d, l] := fun z => nml (by simp only [List.mem_cons, List.not_mem_nil, or_false] at z ⊢; exact z.elim .inl fun z => .inr (.inl z))
        try dsimp only
        refine seq_post (fun σ' H' => ∃ (v12 : Option V) (xs : List V) (rs' : List (Int × Int)), σ' = [some (.ref a0), some (.ref d), some (.int m), some (.ref hl), some (.ref rl), v5, none, some (.ref bl), v8, v9, none, some (.ref ml), v12, none, none, none, none, none, none] ∧ LF c m bs rs d l hl bl rl as H' ∧ H' ml = some (.lst xs) ∧ Paired (RdAt H') xs rs' ∧ rs'.Perm rs) ?_ ?_
        · rintro σ' H9 ⟨v12, xs, rs', rfl, L9, eml9, hxs, hperm⟩
          have hxlen : xs.length = rs'.length := Paired.len' hxs
          clear hrl2 hras hral eml L8 H8 ras
          obtain ⟨s0, rfl, rfl, rfl⟩ : ∃ s : Hs, s.m = m ∧ s.bs = bs ∧ s.rs = rs := ⟨⟨m, bs, rs⟩, rfl, rfl, rfl⟩
          have hok : s0.Ok := ⟨by omega, by omega, ⟨fun p hp => (hbs p hp).1⟩, fun p hp => (hbs p hp).2, ⟨by show ((s0.bs.length : Nat) : Int) ≤ 4; omega, hr16, hrok⟩, hrpw.imp fun h => rdLt.ne h, hrpw.imp fun h => rdLt.le h, hb1⟩
          have hst : ∀ p ∈ s0.bs, steadyB s0.m p.1 p.2 = true := fun p hp => steady_good (hbs p hp).1
          have hlen := Paired.len' L9.bks
          refine ⟨_, rfl, bl, rfl, ⟨_, SqL.of L9.books⟩, fun gl hgl => lc_fmL as V.ref (fun _ => true) (fun a y _ => y = V.ref a) (fun _ _ _ _ _ r => r) L9.books hgl (by omega) (fun y hy H' s' Rb kb => kb _ (Same.refl _)) (fun y hy _ H' s' Rq kq => ⟨_, rfl, kq _ _ (Same.refl _) rfl⟩) fun ys H10 s10 hys pp => ?_⟩
          rw [filter_tt] at pp
          have eys := paired_ref pp
          subst eys
          have L10 := L9.same s10
          have eml10 := s10 _ _ eml9
          have hxs10 : Paired (RdAt H10) xs rs' := Paired.map' hxs fun _ _ ⟨a, e, h⟩ => ⟨a, e, h.same s10⟩
          have ngl : gl ∉ [d, l, hl, bl, rl] := fun z => L9.alive gl z hgl
          have ngm : gl ≠ ml := fun z => by rw [z, eml9] at hgl; cases hgl
          clear pp s10 hxs eml9 L9 hgl
          try dsimp only
          refine seq_post (fun σ' H' => ∃ (x x2 : Addr) (O1 O2 : List Addr), σ' = [some (.ref a0), some (.ref d), some (.int s0.m), some (.ref hl), some (.ref rl), v5, none, some (.ref bl), v8, v9, none, some (.ref ml), v12, none, some (.ref gl), some (.ref x), some (.ref x2), none, none] ∧ LL c s0 d l hl bl rl as O1 O2 x x2 (s0.bs.map fun _ => []) [] [] H' ∧ H' gl = some (.lst (as.map V.ref)) ∧ H' ml = some (.lst xs) ∧ BooksAt c H' x (as.map V.ref) ∧ (∀ a ∈ [gl, ml], a ∉ [d, l, hl, bl, rl] ∧ a ∉ O1 ∧ a ∉ O2)) ?_ ?_
          · rintro σ' H11 ⟨x, x2, O1, O2, rfl, LL11, egl11, eml11, BA11, hgm⟩
            clear hxs10 eml10 L10 hys H10
            refine seq_post (fun σ' H' => σ' = [some (.ref a0), some (.ref d), some (.int s0.m), some (.ref hl), some (.ref rl), v5, none, some (.ref bl), v8, v9, none, some (.ref ml), v12, none, some (.ref gl), some (.ref x), some (.ref x2), none, none] ∧ Same H11 H') ?_ ?_
            · rintro σ' H12 ⟨rfl, s12⟩
              have LL12 := LL11.same s12
              have egl12 := s12 _ _ egl11
              have eml12 := s12 _ _ eml11
              have BA12 := BA11.same s12
              clear s12 BA11 eml11 egl11 LL11 H11
              obtain ⟨yy, hyy⟩ : ∃ y, (as.map V.ref)[(as.map V.ref).length - 1]? = some y := ⟨_, List.getElem?_eq_getElem (by rw [List.length_map]; omega)⟩
              have hg1 := hgm gl (by simp)
              have hg2 := hgm ml (by simp)
              refine ⟨_, rfl, .inl ⟨rfl, _, SqL.of egl12⟩, gl, _, yy, rfl, rfl, egl12, hyy, ?_⟩
              have LL13 := LL12.upd egl12 hg1.1 hg1.2.1 hg1.2.2 (.lst (as.map V.ref).dropLast)
              have BA13 := BA12.upd (o := .lst (as.map V.ref).dropLast) egl12
              have eml13 : (upd H12 gl (.lst (as.map V.ref).dropLast)) ml = some (.lst xs) := by rw [upd_ne (Ne.symm ngm)]; exact eml12
              generalize upd H12 gl (.lst (as.map V.ref).dropLast) = H13 at LL13 BA13 eml13 ⊢
              have hxl := hxlen
              have hpl := hperm.length_eq
              refine ⟨_, rfl, .inl ⟨rfl, _, SqL.of eml13⟩, (by show 2 ≤ sizeLine; decide), fun p0 hp0 => ?_⟩
              have sp0 : Same H13 (upd H13 p0 (.tup [.int 0, .int 0])) := Same.new hp0
              have eml14 := sp0 _ _ eml13
              refine ⟨ml, _, _, rfl, rfl, eml14, small_lt (by omega), ?_⟩
              have LL15 := (LL13.same sp0).upd eml14 hg2.1 hg2.2.1 hg2.2.2 (.lst (xs ++ [.ref p0]))
              have BA15 := (BA13.same sp0).upd (o := .lst (xs ++ [.ref p0])) eml14
              generalize upd (upd H13 p0 (.tup [.int 0, .int 0])) ml (.lst (xs ++ [.ref p0])) = H15 at LL15 BA15 ⊢
              clear eml14 sp0 hp0 eml13 BA13 LL13 eml12 egl12 BA12 LL12 hyy hg1 hg2 hgm
              try dsimp only
              refine seq_post (fun σ' H' => σ' = [some (.ref a0), some (.ref d), some (.int s0.m), some (.ref hl), some (.ref rl), v5, none, some (.ref bl), v8, v9, none, some (.ref ml), v12, none, some (.ref gl), some (.ref x), some (.ref x2), none, none] ∧ Same H15 H') ?_ ?_
              · rintro σ' H16 ⟨rfl, s16⟩
                have LL16 := LL15.same s16
                clear s16 BA15 LL15
                refine ⟨_, rfl, _, rfl, _, rfl, _, rfl, ?_⟩
                dsimp only [tNil]
                refine sorted_lot LL16.f.roads hok.asc fun t H17 s17 ht0 ht => ?_
                refine ⟨_, rfl, ?_⟩
                have LL17 := LL16.same s17
                have nt : t ∉ d :: l :: O1 := fun m => by
                  simp only [List.mem_cons] at m
                  rcases m with m | m | m
                  · exact LL16.f.alive t (by simp [m]) ht0
                  · exact LL16.f.alive t (by simp [m]) ht0
                  · exact LL16.l1.alive t m ht0
                have nh : hl ∉ d :: l :: O1 := fun m => by
                  simp only [List.mem_cons] at m
                  have q := LL16.f.nd hl (by simp)
                  rcases m with m | m | m
                  · exact q (by simp [m])
                  · exact q (by simp [m])
                  · exact LL16.d1 hl m (by simp)
                refine ⟨d, l, x, hl, t, s0, O1, rfl, LL17.f.deal, LL17.o1, LL17.l1, hok, LL17.f.house, ht, hm3, fun a ha z => LL17.d1 a ha (by simp only [List.mem_cons, List.not_mem_nil, or_false] at z ⊢; exact z.elim .inl fun z => .inr (.inl z)), nh, nt, fun r he ss el la O' H18 fr18 hD18 ow18 ho18 LV18 hel hla hr18 hhe nhe => ?_⟩
                have LL18 := LL17.go T.neBL fr18 hD18 ow18 ho18 LV18
                have hd18 : HdAt H18 he ss O' d l := ⟨hhe, nhe⟩
                have hss := LV18
                obtain ⟨_, _, _, _, _, _, _, _, _, _, _, Lss⟩ := hss
                have hsl := Lss.heard
                refine ⟨r, _, rfl, SqT.of hr18, rfl, _, _, rfl, _, _, rfl, rfl, ?_⟩
                clear nhe hhe LV18 ho18 ow18 hD18 fr18 LL17 nt nh ht ht0 s17 LL16 Lss hr18
                try dsimp only
                refine seq_post (fun σ' H' => σ' = [some (.ref a0), some (.ref d), some (.int s0.m), some (.ref hl), some (.ref rl), v5, none, some (.ref bl), v8, v9, none, some (.ref ml), v12, none, some (.ref gl), some (.ref x), some (.ref x2), some (.bl true), some (.ref he)] ∧ ∃ O1 ss2 el la, LL c s0 d l hl bl rl as O1 O2 x x2 ss2 el la H' ∧ HdAt H' he ss O1 d l) ?_ ?_
                · rintro σ' H19 ⟨rfl, O3, ss2, el2, la2, LL19, hd19⟩
                  clear hd18 LL18 hla hel
                  refine seq_post (fun σ' H' => σ' = [some (.ref a0), some (.ref d), some (.int s0.m), some (.ref hl), some (.ref rl), v5, none, some (.ref bl), v8, v9, none, some (.ref ml), v12, none, some (.ref gl), some (.ref x), some (.ref x2), some (.bl true), some (.ref he)] ∧ Same H19 H') ?_ ?_
                  · rintro σ' H20 ⟨rfl, s20⟩
                    have LL20 := LL19.same s20
                    have hd20 : LotL H20 he ss := hd19.1.same s20
                    have nhe : he ∉ [d, l] := fun z => hd19.2 (by simp only [List.mem_cons, List.not_mem_nil, or_false] at z ⊢; exact z.elim .inl fun z => .inr (.inl z))
                    clear s20 LL19 hd19
                    have F20 := LL20.f
                    have hh20 := F20.house
                    obtain ⟨ts, hts, hent⟩ := hh20
                    have htl := Paired.len' hent
                    refine ⟨_, rfl, _, rfl, hl, _, rfl, .inl (SqL.of hts), d, l, _, rfl, F20.deal, by rw [List.length_map]; omega, by rw [List.length_map]; omega, fun h_ H21 fr21 hD21 h0 h1 => ?_⟩
                    rw [List.length_map, htl] at h1
                    obtain ⟨h, rfl⟩ : ∃ n : Nat, h_ = (n : Int) := ⟨h_.toNat, by omega⟩
                    have F21 := F20.draw fr21 hD21
                    have he21 : LotL H21 he ss := (fr21.kt (c := c) F20.deal.nst).lotL' fr21 nhe hd20
                    clear hent hts hd20 F20 LL20 fr21 hD21 htl
                    try dsimp only
                    refine seq_post (fun σ' H' => ∃ (a : Addr) (u : List Int), σ' = [some (.ref a0), some (.ref d), some (.int s0.m), some (.ref hl), some (.ref rl), some (.int (h : Int)), none, some (.ref bl), v8, v9, some (.ref a), some (.ref ml), v12, none, some (.ref gl), some (.ref x), some (.ref x2), some (.bl true), some (.ref he)] ∧ LF c s0.m s0.bs s0.rs d l hl bl rl as H' ∧ TupI H' a u ∧ LotOk s0.m u ∧ u.length ≤ 10) ?_ ?_
                    · rintro σ' H22 ⟨a, u, rfl, F22, hu, huo, hul⟩
                      refine ⟨_, rfl, _, rfl, _, rfl, _, rfl, _, rfl, hl, bl, rl, a, s0, as, h, u, rfl, F22.house, F22.books, F22.bks, hst, F22.roads, hok, by omega, hu, huo, hul, fun H23 s23 => ⟨_, rfl, ?_⟩⟩
                      have F23 := F22.same s23
                      exact iteF ⟨_, rfl, _, rfl, _, rfl, _, rfl, d, l, bl, rl, s0, as, rfl, F23.deal, F23.books, F23.bks, F23.roads, hok, hb4, hm3, hm5, F23.nd bl (by simp), F23.nd rl (by simp), fun H24 fr24 => k H24⟩
                    · intro R kR
                      refine ⟨_, rfl, d, l, 2, rfl, F21.deal, by omega, by omega, fun r2 H22 fr22 hD22 _ _ => ⟨rfl, _, rfl, ?_⟩⟩
                      have F22 := F21.draw fr22 hD22
                      have he22 : LotL H22 he ss := (fr22.kt (c := c) F21.deal.nst).lotL' fr22 nhe he21
                      refine ite2 (fun _ => ?_) (fun _ => ?_)
                      · obtain ⟨hes, e1, e2⟩ := he22
                        have hsl1 := hsl.len
                        obtain ⟨u, hu⟩ : ∃ u, ss[h]? = some u := ⟨_, List.getElem?_eq_getElem (by omega)⟩
                        obtain ⟨a, ha, hau⟩ := Paired.at2 e2 hu
                        have huo := hsl.ok u (List.mem_of_getElem? hu)
                        have hul := lot_len huo hok.m0
                        exact ⟨_, rfl, _, rfl, he, _, _, _, rfl, rfl, .inl (SqL.of e1), atI_nat (map_at ha), kR _ _ ⟨a, u, rfl, F22, hau, huo, by omega⟩⟩
                      · refine ⟨_, rfl, s0.m, rfl, RgOk.of_le (by omega) (by omega) (by omega) (by omega), fun q hq => kR _ _ ⟨q, rng 0 s0.m, rfl, F22.same (Same.new hq), ?_, lot_rng _, by rw [len_rng]; omega⟩⟩
                        show upd _ q _ q = _
                        rw [upd_same]
                        unfold rgV rng
                        rw [List.map_map]
                        rfl
                  · intro R kR
                    obtain ⟨dxt, btt, rtt, ktt, e2t, l2t, ast, eat, lat, eO2, Lt⟩ := LL19.l2.at LL19.o2
                    refine ⟨_, rfl, x2, _, _, _, _, rfl, Lt.ins, T.clL, T.nL3, rfl, Nat.zero_le _, fun e he0 => ⟨(by show 1 ≤ sizeLine; decide), fun q hq => ?_⟩⟩
                    have se : Same H19 (upd H19 e (.tup [])) := Same.new he0
                    have sq : Same (upd H19 e (.tup [])) (upd (upd H19 e (.tup [])) q (.tup [.ref e])) := Same.new hq
                    have seq' := Same.trans se sq
                    refine ⟨_, rfl, bl, _, rfl, .inl (SqL.of (seq' _ _ LL19.f.books)), ?_⟩
                    refine rep_unit (bs := s0.bs) upd_same (sq _ _ upd_same) (by rw [List.length_map]; exact hlen.symm) (by rw [List.length_map]; omega) (by rw [List.length_map]; omega) fun t2 Hd sd ht2 => ?_
                    have ekk : s0.keptL (s0.bs.map fun _ => []) = s0.bs.map fun _ => [] := keptFrom_nil s0 s0.bs 0
                    refine ⟨.tuple (lotsD (s0.bs.map fun _ => [])), .tuple (lotsD (s0.bs.map fun _ => [])), dp_lotT (by rw [← ekk]; exact Lt.kept.same (seq'.trans sd)), dp_lotT ht2, sh_lotT _, sh_lotT _, _, rfl, ?_⟩
                    rw [eqv_self _ (sh_lotT _)]
                    have SD := seq'.trans sd
                    have LLd := LL19.same SD
                    clear ht2 sd seq' sq se
                    refine iteF ⟨_, rfl, _, rfl, bl, _, rfl, .inl (SqL.of LLd.f.books), (by show 1 ≤ sizeLine; decide), fun a ha => ?_⟩
                    have sf := Same.new (o := .tup [.int (((as.map V.ref).length : Nat) : Int)]) ha
                    refine ⟨x2, a, "list", "hand", [.int (((as.map V.ref).length : Nat) : Int)], s0, O2, _, _, _, rfl, LLd.o2, LLd.l2.same sf, hok, by show 0 ≤ 900; omega, upd_same, .inr (.inr ⟨_, rfl, rfl, trivial, isB_off (.inr ?_), rfl⟩), fun Hg sg => ⟨rfl, _, rfl, ?_⟩⟩
                    · show ((s0.bs.length : Nat) : Int) ≤ _
                      rw [List.length_map]; omega
                    rw [decide_eq_true rfl]
                    exact iteF (kR _ _ ⟨rfl, SD.trans (sf.trans sg)⟩)
                · intro R kR
                  obtain ⟨dxl, btl, rtl, ktl, e2l, l2l, asl, eal, lal, eO1, Lx⟩ := LL18.l1.at LL18.o1
                  refine ⟨_, rfl, _, rfl, iteF ⟨_, rfl, x, _, _, rfl, Lx.ins, rfl, x, s0, O', ss, el, la, rfl, LL18.o1, LL18.l1, by omega, fun ee => ⟨_, _, rfl, rfl, _, rfl, iteF (iteF (kR _ _ ⟨rfl, O', ss, el, la, LL18, hd18⟩))⟩, fun e tt ee H19 O3 fr19 ow19 ho19 LV19 => ⟨_, _, rfl, rfl, _, rfl, iteT ?_⟩⟩⟩
                  have LL19 := LL18.step T.neBL fr19 ow19 ho19 LV19
                  have hd19 := hd18.step T.neBL LL18.l1 fr19 ow19
                  obtain ⟨dxm, btm, rtm, ktm, e2m, l2m, asm, eam, lam, eO2, Lm⟩ := LL19.l1.at LL19.o1
                  have hle : e.length ≤ 100 := by rw [ee, List.length_append] at hla; omega
                  refine ⟨_, rfl, x, _, _, rfl, Lm.ins, rfl, x, s0, O3, tt, el ++ [ss], e, rfl, LL19.o1, LL19.l1, by omega, fun z => absurd (congrArg List.length z) (by simp), fun e5 t5 e6 H20 O4 fr20 ow20 ho20 LV20 => ⟨_, _, rfl, rfl, _, rfl, iteF (kR _ _ ⟨rfl, O4, t5, e5, _, LL19.step T.neBL fr20 ow20 ho20 LV20, hd19.step T.neBL LL19.l1 fr20 ow20⟩)⟩⟩
              · intro R kR
                have hBA := BA15
                obtain ⟨dxa, fsa, bta, exa, elka, ebta⟩ := hBA
                refine ⟨_, rfl, x, _, _, _, _, rfl, exa, T.clL, T.nL1, elka, _, rfl, bl, _, rfl, .inl ⟨SqL.of LL15.f.books, fun qa hqa => ?_⟩⟩
                have sa : Same H15 (upd H15 qa (.tup (as.map V.ref))) := Same.new hqa
                refine ⟨bta, qa, as, rfl, rfl, SqT.of (sa _ _ ebta), SqT.of upd_same, _, rfl, ?_⟩
                have LLa := LL15.same sa
                generalize upd H15 qa (.tup (as.map V.ref)) = Ha at sa LLa ⊢
                obtain ⟨dxl, btl, rtl, ktl, e2l, l2l, asl, eal, lal, eO1, Lx⟩ := LLa.l1.at LLa.o1
                refine iteF ⟨_, rfl, x, _, _, _, _, rfl, Lx.ins, T.clL, T.nL2, rfl, _, rfl, ?_⟩
                dsimp only [tNil]
                refine sorted_lot LLa.f.roads hok.asc fun p Hb sb _ hp => ?_
                try dsimp only [tNil]
                refine list_tup hp fun t Hc sc ht => ?_
                refine ⟨.tuple (lotsD (s0.rs.map pr)), .tuple (lotsD (s0.rs.map pr)), dp_lotT (Lx.roads.same (sb.trans sc)), dp_lotT ht, sh_lotT _, sh_lotT _, _, rfl, ?_⟩
                rw [eqv_self _ (sh_lotT _)]
                have Lx2 := Lx.same (sb.trans sc)
                have LLc := LLa.same (sb.trans sc)
                have sac := sa.trans (sb.trans sc)
                clear hp ht sb sa
                refine iteF ⟨_, rfl, x, _, _, rfl, Lx2.ins, rfl, x, s0, O1, _, _, _, rfl, LLc.o1, LLc.l1, by show 0 ≤ 900; omega, fun _ => ⟨_, _, rfl, rfl, _, rfl, iteF (kR _ _ ⟨rfl, sac⟩)⟩, fun e tt ee => absurd (congrArg List.length ee) (by simp)⟩
            · intro R kR
              have hBA := BA11
              obtain ⟨dxa, fsa, bta, exa, elka, ebta⟩ := hBA
              refine ⟨_, rfl, x, _, _, _, _, rfl, exa, T.clL, T.nL1, elka, _, rfl, bl, _, rfl, .inl ⟨SqL.of LL11.f.books, fun qa hqa => ?_⟩⟩
              have sa : Same H11 (upd H11 qa (.tup (as.map V.ref))) := Same.new hqa
              refine ⟨bta, qa, as, rfl, rfl, SqT.of (sa _ _ ebta), SqT.of upd_same, _, rfl, ?_⟩
              have LLa := LL11.same sa
              generalize upd H11 qa (.tup (as.map V.ref)) = Ha at sa LLa ⊢
              obtain ⟨dxl, btl, rtl, ktl, e2l, l2l, asl, eal, lal, eO1, Lx⟩ := LLa.l1.at LLa.o1
              refine iteF ⟨_, rfl, x, _, _, _, _, rfl, Lx.ins, T.clL, T.nL2, rfl, _, rfl, ?_⟩
              dsimp only [tNil]
              refine sorted_lot LLa.f.roads hok.asc fun p Hb sb _ hp => ?_
              try dsimp only [tNil]
              refine list_tup hp fun t Hc sc ht => ?_
              refine ⟨.tuple (lotsD (s0.rs.map pr)), .tuple (lotsD (s0.rs.map pr)), dp_lotT (Lx.roads.same (sb.trans sc)), dp_lotT ht, sh_lotT _, sh_lotT _, _, rfl, ?_⟩
              rw [eqv_self _ (sh_lotT _)]
              have Lx2 := Lx.same (sb.trans sc)
              have LLc := LLa.same (sb.trans sc)
              have sac := sa.trans (sb.trans sc)
              clear hp ht sb sa
              refine iteF ⟨_, rfl, x, _, _, _, _, rfl, Lx2.ins, T.clL, T.nL3, rfl, Nat.zero_le _, fun e he => ⟨(by show 1 ≤ sizeLine; decide), fun q hq => ?_⟩⟩
              have se : Same Hc (upd Hc e (.tup [])) := Same.new he
              have sq : Same (upd Hc e (.tup [])) (upd (upd Hc e (.tup [])) q (.tup [.ref e])) := Same.new hq
              have seq' := Same.trans se sq
              refine ⟨_, rfl, bl, _, rfl, .inl (SqL.of (seq' _ _ LLc.f.books)), ?_⟩
              refine rep_unit (bs := s0.bs) upd_same (sq _ _ upd_same) (by rw [List.length_map]; exact hlen.symm) (by rw [List.length_map]; omega) (by rw [List.length_map]; omega) fun t2 Hd sd ht2 => ?_
              have ekk : s0.keptL (s0.bs.map fun _ => []) = s0.bs.map fun _ => [] := keptFrom_nil s0 s0.bs 0
              refine ⟨.tuple (lotsD (s0.bs.map fun _ => [])), .tuple (lotsD (s0.bs.map fun _ => [])), dp_lotT (by rw [← ekk]; exact Lx2.kept.same (seq'.trans sd)), dp_lotT ht2, sh_lotT _, sh_lotT _, _, rfl, ?_⟩
              rw [eqv_self _ (sh_lotT _)]
              exact iteF (kR _ _ ⟨rfl, sac.trans (seq'.trans sd)⟩)
          · intro R kR
            refine ⟨_, rfl, _, rfl, rfl, rfl, fun x dx hx hdx ndx => ?_⟩
            have s11 : Same H10 (upd (upd H10 dx (.own x)) x (.ins c.CL dx [])) := Same.put (Same.new hdx) (by rw [upd_ne (Ne.symm ndx)]; exact hx)
            have ex11 : (upd (upd H10 dx (.own x)) x (.ins c.CL dx [])) x = some (.ins c.CL dx []) := upd_same
            have edx11 : (upd (upd H10 dx (.own x)) x (.ins c.CL dx [])) dx = some (.own x) := by rw [upd_ne ndx]; exact upd_same
            generalize upd (upd H10 dx (.own x)) x (.ins c.CL dx []) = H11 at s11 ex11 edx11 ⊢
            have hbk11 := (Same.kt s11).bks L10.bks
            have hxl := Paired.len' hxs10
            have hpl := hperm.length_eq
            have hro : RoadsOk H11 (.ref ml) (as.length : Int) rs' := by
              refine ⟨ml, xs, rfl, .inl (s11 _ _ eml10), by omega, Paired.map' hxs10 fun _ _ ⟨a, e, h⟩ => ⟨a, e, h.same s11⟩, fun p hp => ?_, hperm.nodup_iff.mpr hok.nd⟩
              rw [hlen]
              exact hrok p (hperm.mem_iff.mp hp)
            refine ⟨x, dx, .ref gl, .ref ml, rfl, ex11, edx11, .inr (.inr (.inr ⟨as, s0, rs', hok, ⟨gl, s0.m, rfl, .inl (s11 _ _ hys), by rw [List.length_map]; omega, by rw [List.length_map]; omega, bks_bkm hbk11⟩, hbk11, hst, hro, hperm, fun H12 e1 l1 b12 he1 hl1 LV1 BA1 => ⟨rfl, ?_⟩⟩))⟩
            have S12 : Same H10 H12 := fun b o e => b12 b o (fun z => by rw [z, hx] at e; cases e) (s11 b o e)
            have L12 := L10.same S12
            have f1 : ∀ a ∈ [x, e1, l1], H10 a = none := fun a m => by
              simp only [List.mem_cons, List.not_mem_nil, or_false] at m
              rcases m with rfl | rfl | rfl
              · exact hx
              · exact Same.free s11 he1
              · exact Same.free s11 hl1
            have d1 : ∀ a ∈ [x, e1, l1], a ∉ [d, l, hl, bl, rl] := fun a ha z => L10.alive a z (f1 a ha)
            have egl12 := S12 _ _ hys
            have eml12 := S12 _ _ eml10
            have g1 : ∀ a ∈ [gl, ml], a ∉ [x, e1, l1] := fun a ha z => by
              have := f1 a z
              simp only [List.mem_cons, List.not_mem_nil, or_false] at ha
              rcases ha with rfl | rfl
              · rw [hys] at this; cases this
              · rw [eml10] at this; cases this
            clear S12 hro hbk11 edx11 ex11 b12 he1 hl1 hx hdx f1 s11
            have hrd12 := L12.roads
            obtain ⟨ras, hras, hrl2⟩ := hrd12
            have hral := Paired.len' hrl2
            rw [List.length_map] at hral
            refine ⟨_, rfl, bl, _, rfl, .inl ⟨SqL.of L12.books, fun tb htb => ?_⟩⟩
            have s13 : Same H12 (upd H12 tb (.tup (as.map V.ref))) := Same.new htb
            refine ⟨_, rfl, rl, _, rfl, .inl ⟨SqL.of (s13 _ _ hras), fun tr htr => ?_⟩⟩
            have s14 : Same (upd H12 tb (.tup (as.map V.ref))) (upd (upd H12 tb (.tup (as.map V.ref))) tr (.tup (ras.map V.ref))) := Same.new htr
            have etb := s14 _ _ (upd_same (H := H12) (a := tb) (o := .tup (as.map V.ref)))
            have etr : (upd (upd H12 tb (.tup (as.map V.ref))) tr (.tup (ras.map V.ref))) tr = some (.tup (ras.map V.ref)) := upd_same
            have S14 := Same.trans s13 s14
            generalize upd (upd H12 tb (.tup (as.map V.ref))) tr (.tup (ras.map V.ref)) = H14 at s14 etb etr S14 ⊢
            have L14 := L12.same S14
            have LV14 := LV1.same S14
            intro x2 dx2 hx2 hdx2 ndx2
            have s15 : Same H14 (upd (upd H14 dx2 (.own x2)) x2 (.ins c.CL dx2 [])) := Same.put (Same.new hdx2) (by rw [upd_ne (Ne.symm ndx2)]; exact hx2)
            have ex15 : (upd (upd H14 dx2 (.own x2)) x2 (.ins c.CL dx2 [])) x2 = some (.ins c.CL dx2 []) := upd_same
            have edx15 : (upd (upd H14 dx2 (.own x2)) x2 (.ins c.CL dx2 [])) dx2 = some (.own x2) := by rw [upd_ne ndx2]; exact upd_same
            generalize upd (upd H14 dx2 (.own x2)) x2 (.ins c.CL dx2 []) = H15 at s15 ex15 edx15 ⊢
            have hbk15 := (Same.kt s15).bks L14.bks
            have hro : RoadsOk H15 (.ref tr) (as.length : Int) s0.rs := by
              refine ⟨tr, _, rfl, .inr (s15 _ _ etr), by rw [List.length_map]; omega, rdAt_of (hrl2.same (S14.trans s15)), fun p hp => ?_, hok.nd⟩
              rw [hlen]
              exact hrok p hp
            refine ⟨x2, dx2, .ref tb, .ref tr, rfl, ex15, edx15, .inr (.inr (.inr ⟨as, s0, s0.rs, hok, ⟨tb, s0.m, rfl, .inr (s15 _ _ etb), by rw [List.length_map]; omega, by rw [List.length_map]; omega, bks_bkm hbk15⟩, hbk15, hst, hro, List.Perm.refl _, fun H16 e2 l2 b16 he2 hl2 LV2 _ => ⟨rfl, ?_⟩⟩))⟩
            have S16 : Same H14 H16 := fun b o e => b16 b o (fun z => by rw [z, hx2] at e; cases e) (s15 b o e)
            have f2 : ∀ a ∈ [x2, e2, l2], H14 a = none := fun a m => by
              simp only [List.mem_cons, List.not_mem_nil, or_false] at m
              rcases m with rfl | rfl | rfl
              · exact hx2
              · exact Same.free s15 he2
              · exact Same.free s15 hl2
            refine ⟨_, _, rfl, kR _ _ ⟨x, x2, [x, e1, l1], [x2, e2, l2], rfl, ⟨L14.same S16, rfl, rfl, LV14.same S16, LV2, d1, fun a ha => ⟨fun z => L14.alive a z (f2 a ha), fun z => LV14.alive a z (f2 a ha)⟩⟩, S16 _ _ (S14 _ _ egl12), S16 _ _ (S14 _ _ eml12), (BA1.same S14).same S16, fun a ha => ⟨?_, g1 a ha, fun z => ?_⟩⟩⟩
            · simp only [List.mem_cons (a := a) (b := gl), List.mem_singleton] at ha
              rcases ha with rfl | rfl
              · exact ngl
              · exact nml
            · have := f2 a z
              simp only [List.mem_cons (a := a) (b := gl), List.mem_singleton] at ha
              rcases ha with rfl | rfl
              · rw [S14 _ _ egl12] at this; cases this
              · rw [S14 _ _ eml12] at this; cases this
        · intro R kR
          refine ⟨_, rfl, rl, rfl, ⟨_, SqL.of hras⟩, for_list (K := K) (a := rl) (xs := ras.map V.ref) (fun i σ H' => ∃ (v12 : Option V) (xs : List V) (rs' : List (Int × Int)), σ = [some (.ref a0), some (.ref d), some (.int m), some (.ref hl), some (.ref rl), v5, none, some (.ref bl), v8, v9, none, some (.ref ml), v12, none, none, none, none, none, none] ∧ LF c m bs rs d l hl bl rl as H' ∧ H' rl = some (.lst (ras.map V.ref)) ∧ Lots H' ras (rs.map pr) ∧ H' ml = some (.lst xs) ∧ Paired (RdN [d, l, ml] H') xs rs' ∧ rs'.Perm (rs.take i))
            ⟨none, [], [], rfl, L8, hras, hrl2, eml, .nil, by rw [List.take_zero]⟩ (fun i σ H' _ ⟨_, _, _, _, _, e', _⟩ => SqL.of e') ?_ ?_⟩
          · rintro i v σ H9 hv ⟨v12, xs, rs', rfl, L9, hras9, hrl9, eml9, hxs, hperm⟩
            obtain ⟨a, p, rfl, hp, ha⟩ := lots_at hrl9 hv
            have hil := (List.getElem?_eq_some_iff.mp hp).1
            have hxl := Paired.len' hxs
            have hpl := hperm.length_eq
            rw [List.length_take] at hpl
            have hxl16 : xs.length ≤ 16 := by omega
            refine ⟨_, rfl, .inl ⟨rfl, _, SqL.of eml9⟩, _, rfl, _, rfl, ml, _, rfl, .inl (SqL.of eml9), _, _, rfl, rfl, d, l, _, rfl, L9.deal, by omega, by omega, fun r H10 fr10 hD10 r0 r1 => ?_⟩
            have L10 := L9.draw fr10 hD10
            have k10 := fr10.kt (c := c) L9.deal.nst
            have ha10 := k10.tup ha
            refine ⟨_, rfl, _, rfl, _, rfl, a, _, rfl, .inr (SqT.of ha10), fun q hq => ⟨(by show 2 ≤ sizeLine; decide), fun o ho => ?_⟩⟩
            have s11 : Same H10 (upd H10 q (.lst [.int p.1, .int p.2])) := Same.new hq
            have s12 : Same (upd H10 q (.lst [.int p.1, .int p.2])) (upd (upd H10 q (.lst [.int p.1, .int p.2])) o (.lst [.ref a, .ref q])) := Same.new ho
            have eq12 := s12 _ _ (upd_same (H := H10) (a := q) (o := .lst [.int p.1, .int p.2]))
            have eo12 : (upd (upd H10 q (.lst [.int p.1, .int p.2])) o (.lst [.ref a, .ref q])) o = some (.lst [.ref a, .ref q]) := upd_same
            have eml10 := fr10 _ _ nm1 eml9
            have nq : q ∉ [d, l, ml] := fun z => by
              simp only [List.mem_cons, List.not_mem_nil, or_false] at z
              rcases z with z | z | z
              · exact hD10.free hq (by simp [z])
              · exact hD10.free hq (by simp [z])
              · rw [z, eml10] at hq; cases hq
            have na : a ∉ [d, l, ml] := fun z => by
              simp only [List.mem_cons, List.not_mem_nil, or_false] at z
              have hdl := L9.deal
              obtain ⟨d', l', sd, nd, ed, h1, h2, _⟩ := hdl
              injection ed with ed1 ed2
              injection ed2 with ed2 _
              subst ed1
              subst ed2
              rcases z with rfl | rfl | rfl
              · rw [h1] at ha; cases ha
              · rw [h2] at ha; cases ha
              · rw [eml9] at ha; cases ha
            have S := Same.trans s11 s12
            have L12 := L10.same S
            have no : o ∉ [d, l] := (L10.same s11).deal.free ho
            generalize upd (upd H10 q (.lst [.int p.1, .int p.2])) o (.lst [.ref a, .ref q]) = H12 at s12 eq12 eo12 S L12 ⊢
            refine ⟨d, l, o, _, rfl, L12.deal, .inl eo12, no, by show 1 ≤ 2; omega, by show 2 ≤ 1000; omega, fun i2 y H13 hy fr13 hD13 => ?_⟩
            have L13 := L12.draw fr13 hD13
            have k13 := fr13.kt (c := c) L12.deal.nst
            have eml13 := fr13 _ _ nm1 (S _ _ eml10)
            have sub : ∀ z ∈ [d, l], z ∈ [d, l, ml] := fun z hz => by
              simp only [List.mem_cons, List.not_mem_nil, or_false] at hz ⊢
              exact hz.elim .inl fun z => .inr (.inl z)
            have F13 : Fr [d, l, ml] H9 H13 := ((fr10.same S).trans fr13).mono sub
            have hy13 : RdN [d, l, ml] H13 y p := by
              have hm := List.mem_of_getElem? hy
              simp only [List.mem_cons, List.not_mem_nil, or_false] at hm
              rcases hm with rfl | rfl
              · exact ⟨a, rfl, .inr (k13.tup (S _ _ ha10)), na⟩
              · exact ⟨q, rfl, .inl (fr13 _ _ (fun z => nq (sub _ z)) eq12), nq⟩
            have F14 : Fr [d, l, ml] H13 (upd H13 ml (.lst (xs.take r.toNat ++ [y] ++ xs.drop r.toNat))) := (Fr.one _).mono fun z hz => by rw [List.mem_singleton.mp hz]; simp
            have k14 : Kt c H13 (upd H13 ml (.lst (xs.take r.toNat ++ [y] ++ xs.drop r.toNat))) := Kt.upd eml13
            have hold : Paired (RdN [d, l, ml] (upd H13 ml (.lst (xs.take r.toNat ++ [y] ++ xs.drop r.toNat)))) xs rs' := Paired.map' hxs fun _ _ h => (h.fr F13).fr F14
            refine ⟨ml, xs, r, y, rfl, rfl, eml13, small_lt (by omega), r0, by omega, _, _, rs'.take r.toNat ++ [p] ++ rs'.drop r.toNat, rfl, L13.upd eml13 nm2 nm1 _, ?_, k14.lots (k13.lots (Lots.same (k10.lots hrl9) S)), upd_same, Paired.app2 (Paired.app (Paired.take' _ hold) (hy13.fr F14)) (Paired.drop' _ hold), ?_⟩
            · rw [upd_ne (fun z => nm2 (by simp [z]))]
              refine fr13 _ _ ?_ (S _ _ (fr10 _ _ ?_ hras9)) <;> exact L9.nd rl (by simp)
            · rw [take_more1 hp]
              exact perm_ins _ hperm
          · rintro σ H9 ⟨v12, xs, rs', rfl, L9, hras9, hrl9, eml9, hxs, hperm⟩
            rw [List.length_map, hral, List.take_length] at hperm
            exact kR _ _ ⟨v12, xs, rs', rfl, L9, eml9, Paired.map' hxs fun _ _ ⟨a, e, h, _⟩ => ⟨a, e, h⟩, hperm⟩
      · intro R kR
        refine ⟨_, rfl, hl, rfl, ⟨_, SqL.of (s6 _ _ hts)⟩, for_list (K := K) (a := hl) (xs := ts.map V.ref) (fun i σ H' => ∃ (v8 v9 : Option V) (as : List Addr), σ = [some (.ref a0), some (.ref d), some (.int m), some (.ref hl), some (.ref rl), v5, none, some (.ref bl), v8, v9, none, none, none, none, none, none, none, none, none] ∧ Same H5 H' ∧ H' bl = some (.lst (as.map V.ref)) ∧ Paired (BkAt c H' m) as (bs.take i))
          ⟨none, none, [], rfl, s6, ebl6, by rw [List.take_zero]; exact .nil⟩ (fun i σ H' _ ⟨_, _, _, _, s', _⟩ => SqL.of (s' _ _ hts)) ?_ ?_⟩
        · rintro i v σ H7 hv ⟨v8, v9, as, rfl, s7, ebl7, hbk7⟩
          rw [List.getElem?_map] at hv
          obtain ⟨t, ht, rfl⟩ := Option.map_eq_some_iff.mp hv
          obtain ⟨p, hp, tb, hte, htab⟩ := Paired.at hent ht
          obtain ⟨G, hk1, hk3, hkm⟩ := hbs p (List.mem_of_getElem? hp)
          have hasl := Paired.len' hbk7
          rw [List.length_take] at hasl
          refine ⟨t, _, rfl, SqT.of (s7 _ _ hte), rfl, _, _, rfl, _, _, rfl, rfl, ?_⟩
          refine ⟨_, rfl, .inl ⟨rfl, _, SqL.of ebl7⟩, _, rfl, _, rfl, _, rfl, _, rfl, _, _, rfl, rfl, m, p.1 + 1, rfl, by omega, by omega, by omega, fun q H8 s8 hq8 hL8 => ?_⟩
          obtain ⟨ras, hras1, hras2⟩ := hL8
          obtain ⟨ps, e1, e2, hps⟩ := lots_zip hras2
          subst e1
          have hsm := rows_small (m := m) (k := p.1 + 1) (by omega) (by omega) (by omega)
          have hpl : ps.length = (rows m (p.1 + 1)).length := by rw [e2, List.length_map]
          refine ⟨q, rfl, ⟨_, SqL.of hras1⟩, fun D hDn => lc_fmL ps (fun p => V.ref p.1) (fun _ => true) (IsIntR fun z => p.2 z.2) (stb_int _) (by rw [hras1, fst_map]) hDn (by omega) (fun y hy H' s' Rb kb => kb _ (Same.refl _)) (fun y hy _ H' s' Rq kq => ?_) fun ys H9 s9 hys pp => ?_⟩
          · have hy1 : y.2 ∈ rows m (p.1 + 1) := by rw [e2]; exact List.mem_map.mpr ⟨y, hy, rfl⟩
            exact ⟨_, rfl, _, rfl, dget_read ((htab.same s7).same (s8.trans s') |>.same (Same.refl _)) (mem_rows.mp hy1).1 (mem_rows.mp hy1).2 (s' _ _ (hps y hy)) (kq _ _ (Same.refl _) rfl)⟩
          rw [filter_tt] at pp
          rw [paired_int pp] at hys
          have hgo : ListI H9 D ((rows m (p.1 + 1)).map p.2) := by
            rw [e2, List.map_map]
            exact hys
          have s79 := s8.trans s9
          intro x dx hx hdx ndx
          have s10 : Same H9 (upd (upd H9 dx (.own x)) x (.ins c.CB dx [])) := Same.put (Same.new hdx) (by rw [upd_ne (Ne.symm ndx)]; exact hx)
          have eo : (upd (upd H9 dx (.own x)) x (.ins c.CB dx [])) x = some (.ins c.CB dx []) := upd_same
          generalize upd (upd H9 dx (.own x)) x (.ins c.CB dx []) = H10 at s10 eo ⊢
          refine ⟨x, D, dx, m, p.1, p.2, rfl, eo, s10 _ _ hgo, by omega, by omega, by omega, by omega, by omega, fun z hz => G.goes z (mem_rows.mp hz).1 (mem_rows.mp hz).2, fun H11 b11 hbk => ⟨rfl, ?_⟩⟩
          have s911 : Same H9 H11 := fun b o e => b11 b o (fun z => by rw [z, hx] at e; cases e) (s10 b o e)
          have s711 : Same H7 H11 := s79.trans s911
          have ebl11 := s711 _ _ ebl7
          have kb : Kt c H11 (upd H11 bl (.lst (as.map V.ref ++ [V.ref x]))) := Kt.upd ebl11
          refine ⟨bl, _, _, rfl, rfl, ebl11, by rw [List.length_map]; exact small_lt (by omega), _, _, as ++ [x], rfl, Same.chg (s7.trans s711) hbl, by rw [upd_same, List.map_append]; rfl, ?_⟩
          rw [take_more1 hp]
          exact Paired.app (kb.bks ((Same.kt s711).bks hbk7)) ⟨kb.book hbk, hk3⟩
        · rintro σ H7 ⟨v8, v9, as, rfl, s7, ebl7, hbk7⟩
          rw [List.length_map, htl, List.take_length] at hbk7
          refine kR _ _ ⟨v8, v9, as, rfl, hD5.same s7, hh5.same s7, ebl7, hbk7, hrl5.same s7, fun a ha => ?_⟩
          simp only [List.mem_cons, List.not_mem_nil, or_false] at ha
          rcases ha with rfl | rfl | rfl
          · exact nhl
          · exact nbl
          · exact nrl
    · intro R kR
      refine ⟨_, rfl, hl, _, rfl, .inl (SqL.of hts), _, rfl, by omega, by rw [List.length_map]; omega, for_range (lo := 0) (n := (((ts.map V.ref).length : Nat) : Int).toNat) (fun i σ H' => ∃ (rl : Addr) (v5 : Option V) (rs : List (Int × Int)), σ = [some (.ref a0), some (.ref d), some (.int m), some (.ref hl), some (.ref rl), v5, none, none, none, none, none, none, none, none, none, none, none, none, none] ∧ DealAt H' [d, l] ∧ HouseAt H' m hl bs ∧ rl ∉ [d, l] ∧ LotL H' rl (rs.map pr) ∧ rs.length ≤ 4 * i ∧ (∀ p ∈ rs, RdOk bs.length p) ∧ rs.Pairwise rdLt ∧ ∀ p ∈ rs, p.1 < (i : Int))
        ⟨rl0, none, [], rfl, hD4, hh4, nrl0, ⟨[], erl, .nil⟩, Nat.le_refl _, fun p hp => (by cases hp), .nil, fun p hp => (by cases hp)⟩ ?_ ?_⟩
      · rintro i σ H5 hi ⟨rl, v5, rs, rfl, hD5, hh5, nrl, hrl5, hle, hok, hpw, hlt⟩
        rw [Int.toNat_natCast, List.length_map] at hi
        have hhts5 := hh5
        obtain ⟨ts5, hts5, hent5⟩ := hhts5
        have htl5 := Paired.len' hent5
        have hrl5' := hrl5
        obtain ⟨ras, hras, hrl2⟩ := hrl5'
        have hral := Paired.len' hrl2
        rw [List.length_map] at hral
        refine ⟨_, rfl, _, rfl, hl, _, rfl, .inl (SqL.of hts5), _, rfl, by omega, by rw [List.length_map]; omega, fun D hD => lc_range (lo := 0) (n := (((ts5.map V.ref).length : Nat) : Int).toNat) (fun j H' => Fr [d, l] H5 H' ∧ DealAt H' [d, l] ∧ ∃ (bs' : List Addr) (es : List (Int × Int)), H' D = some (.lst (bs'.map V.ref)) ∧ Lots H' bs' (es.map pr) ∧ es.length ≤ j ∧ (rs ++ es).Pairwise rdLt ∧ (∀ p ∈ es, RdOk bs.length p) ∧ ∀ p ∈ es, p.1 = (i : Int) ∧ p.2 < (j : Int)) ?_ ?_ ?_⟩
        · exact ⟨Fr.chg (Fr.refl _ _) (.inl hD), hD5.upd (hD5.free hD), [], [], upd_same, .nil, Nat.le_refl _, by rw [List.append_nil]; exact hpw, fun p hp => (by cases hp), fun p hp => (by cases hp)⟩
        · rintro j H6 hj ⟨fr6, hD6, bs', es, hD6', hbs', hes, hpe, hoke, hlte⟩
          rw [Int.toNat_natCast, List.length_map] at hj
          refine ⟨rfl, ?_⟩
          refine ⟨_, rfl, _, rfl, rfl, _, rfl, ?_⟩
          rw [decV]
          have nD : D ∉ [d, l] := hD5.free hD
          have stay : ∀ H7, Fr [d, l] H6 H7 → DealAt H7 [d, l] → Fr [d, l] H5 H7 ∧ DealAt H7 [d, l] ∧ ∃ (bs' : List Addr) (es : List (Int × Int)), H7 D = some (.lst (bs'.map V.ref)) ∧ Lots H7 bs' (es.map pr) ∧ es.length ≤ j + 1 ∧ (rs ++ es).Pairwise rdLt ∧ (∀ p ∈ es, RdOk bs.length p) ∧ ∀ p ∈ es, p.1 = (i : Int) ∧ p.2 < ((j + 1 : Nat) : Int) := fun H7 fr7 hD7 =>
            ⟨fr6.trans fr7, hD7, bs', es, fr7 _ _ nD hD6', (fr7.kt (c := c) hD6.nst).lots hbs', by omega, hpe, hoke, fun p hp => ⟨(hlte p hp).1, by have := (hlte p hp).2; omega⟩⟩
          by_cases ne : (0 : Int) + (j : Int) = 0 + (i : Int)
          · rw [decide_eq_true ne]
            exact iteF (iteF (stay H6 (Fr.refl _ _) hD6))
          · rw [decide_eq_false ne]
            refine iteT ⟨_, rfl, d, l, 2, rfl, hD6, by omega, by omega, fun r2 H7 fr7 hD7 _ _ => ⟨rfl, _, rfl, ?_⟩⟩
            refine ite2 (fun _ => ?_) (fun _ => stay H7 fr7 hD7)
            refine ⟨_, rfl, _, rfl, (by show 2 ≤ sizeLine; decide), fun q hq => ?_⟩
            have s8 : Same H7 (upd H7 q (.tup [.int (0 + (i : Int)), .int (0 + (j : Int))])) := Same.new hq
            have eq8 : TupI (upd H7 q (.tup [.int (0 + (i : Int)), .int (0 + (j : Int))])) q (pr ((i : Int), (j : Int))) := by
              show upd _ q _ q = _
              rw [upd_same, Int.zero_add, Int.zero_add]; rfl
            have hbs8 : Lots (upd H7 q (.tup [.int (0 + (i : Int)), .int (0 + (j : Int))])) bs' (es.map pr) := ((fr7.kt (c := c) hD6.nst).lots hbs').same s8
            have eD8 := s8 _ _ (fr7 _ _ nD hD6')
            have fr8 : Fr [d, l] H5 (upd H7 q (.tup [.int (0 + (i : Int)), .int (0 + (j : Int))])) := (fr6.trans fr7).same s8
            have hD8 := hD7.same s8
            generalize upd H7 q (.tup [.int (0 + (i : Int)), .int (0 + (j : Int))]) = H8 at s8 eq8 hbs8 eD8 fr8 hD8 ⊢
            have hbl' := Paired.len' hbs8
            rw [List.length_map] at hbl'
            have kD : Kt c H8 (upd H8 D (.lst (bs'.map V.ref ++ [V.ref q]))) := Kt.upd eD8
            refine ⟨_, eD8, by rw [List.length_map]; exact small_lt (by omega), Fr.chg fr8 (.inl hD), hD8.upd nD, bs' ++ [q], es ++ [((i : Int), (j : Int))], by rw [upd_same, List.map_append]; rfl, ?_, by rw [List.length_append, List.length_singleton]; omega, ?_, fun p hp => ?_, fun p hp => ?_⟩
            · rw [List.map_append]
              exact Paired.app (kD.lots hbs8) (kD.tup eq8)
            · rw [← List.append_assoc, List.pairwise_append]
              refine ⟨hpe, List.pairwise_singleton _ _, fun p hp p' hp' => ?_⟩
              rw [List.mem_singleton.mp hp']
              rcases List.mem_append.mp hp with h | h
              · exact .inl (hlt p h)
              · exact .inr (hlte p h)
            · rcases List.mem_append.mp hp with h | h
              · exact hoke p h
              · rw [List.mem_singleton.mp h]
                exact ⟨by show (0 : Int) ≤ (i : Int); omega, by show (i : Int) < ((bs.length : Nat) : Int); omega, by show (0 : Int) ≤ (j : Int); omega, by show (j : Int) < ((bs.length : Nat) : Int); omega, fun z => ne (by have z' : (i : Int) = (j : Int) := z; omega)⟩
            · rcases List.mem_append.mp hp with h | h
              · exact ⟨(hlte p h).1, by have := (hlte p h).2; omega⟩
              · rw [List.mem_singleton.mp h]
                exact ⟨rfl, by show (j : Int) < ((j + 1 : Nat) : Int); omega⟩
        · rintro H6 ⟨fr6, hD6, bs', es, hD6', hbs', hes, hpe, hoke, hlte⟩
          rw [Int.toNat_natCast, List.length_map] at hes
          have k6 := fr6.kt (c := c) hD5.nst
          have hras6 := fr6 _ _ nrl hras
          have hrl6 := k6.lots hrl2
          have hbl' := Paired.len' hbs'
          rw [List.length_map] at hbl'
          refine ⟨rl, D, _, _, rfl, rfl, hras6, hD6', by rw [List.length_map, List.length_map]; exact small_k (by omega), fun o ho => ?_⟩
          have s7 : Same H6 (upd H6 o (.lst (ras.map V.ref ++ bs'.map V.ref))) := Same.new ho
          refine ⟨o, _, rs ++ es, rfl, hD6.same s7, (hh5.kp k6 (fun o' e => fr6 _ _ nhl e)).same s7, hD6.free ho, ⟨ras ++ bs', by rw [upd_same, List.map_append], by rw [List.map_append]; exact Paired.app2 (hrl6.same s7) (hbs'.same s7)⟩, by rw [List.length_append]; omega, fun p hp => ?_, hpe, fun p hp => ?_⟩
          · exact (List.mem_append.mp hp).elim (hok p) (hoke p)
          · rcases List.mem_append.mp hp with h | h
            · have := hlt p h
              omega
            · rw [(hlte p h).1]; omega
      · rintro σ H5 ⟨rl, v5, rs, rfl, hD5, hh5, nrl, hrl5, hle, hok, hpw, hlt⟩
        rw [Int.toNat_natCast, List.length_map] at hle
        exact kR _ _ ⟨rl, v5, rs, rfl, hD5, hh5, nrl, hrl5, by omega, hok, hpw⟩
end
end Ws
end
section
set_option Elab.async false
set_option linter.all false
set_option maxRecDepth 100000
set_option maxHeartbeats 4000000
/-! K52: what the top has written, looked at. -/
namespace Ws
open PySem PySem.Spec PyProof.Rows L2 He
set_option autoImplicit false
/-! ### a def of no default -/
theorem toFun {K : PySem.W.Frag} {x q : Str} {st : Stmt} {f : Addr} {fd : FuncData} (F : FunD K x q (defArgs st) (defBody st) (defScope st) [] [] f fd) : Fun K x q st f fd := by
  obtain ⟨oc, od, dV, kV, doc, pm, an, cdv, ct, osl, rfl, lk, hcd, hD, _⟩ := F.ex
  rcases hD with ⟨_, rfl⟩ | ⟨e, _⟩
  · exact ⟨⟨oc, od, kV, doc, pm, an, cdv, ct, osl, rfl, lk, hcd⟩, F.kp⟩
  · exact absurd rfl e
theorem toK {K : PySem.W.Frag} {x q : Str} {params : Arguments} {body : List Stmt} {scope : Scope} {f : Addr} {fd : FuncData} {ps ks : List Str} (F : FunD K x q params body scope [] [] f fd)
    (h : ∀ (kV doc pm : Value) (an : Option Addr) (cdv ct : Value) (us ws : List Value), us.length = 1 → ws.length = ks.length → bindArgs (PySem.W.fnOf x q params body scope .none kV doc pm an cdv ct) ⟨us, ks.zip ws⟩ = pure (ps.zip (us ++ ws))) :
    KBn K fd ps 1 ks (fun us ws => us ++ ws) (fun vs zs => vs ++ zs) := by
  obtain ⟨oc, od, dV, kV, doc, pm, an, cdv, ct, osl, rfl, lk, hcd, hD, _⟩ := F.ex
  rcases hD with ⟨_, rfl⟩ | ⟨e, _⟩
  · exact ⟨fun s us ws _ l1 l2 => .of_eq (h kV doc pm an cdv ct us ws l1 l2), fun r1 r2 => r1.append r2⟩
  · exact absurd rfl e
/-! ### the errors -/
def xclsB (K : PySem.W.Frag) (C : Addr) : Bool := match K.lookup C with
  | some ⟨.type t, _, .cls cd, sl⟩ => decide (t = "type") && ((match cd.mro with
    | .ref C' :: bm => decide (C' = C) && (PySem.W.excTail ESX.exTail bm && eqO (PySem.W.alongIn K "__init__" bm) (some (some (.builtin "Exception.__init__"))))
    | _ => false) && (cd.hasDict && (!cd.hasDel && (match sl.toList with
      | [_, _, _, _, some (.builtin s), _] => decide (s = "Exception.__new__")
      | _ => false))))
  | _ => false
theorem xcls_ok {K : PySem.W.Frag} {C : Addr} (h : xclsB K C = true) :
    ∃ nm' q N bs bm sn sub ab col dd k0 k1 k2 k3 k5, K.lookup C = some (excClassObj nm' q C N bs bm true sn sub ab col dd k0 k1 k2 k3 k5 "Exception.__new__") ∧ PySem.W.excTail ESX.exTail bm = true ∧ PySem.W.alongIn K "__init__" bm = some (some (.builtin "Exception.__init__")) := by
  unfold xclsB at h
  cases e : K.lookup C with
  | none => rw [e] at h; cases h
  | some o =>
    obtain ⟨oc, od, dt, sl⟩ := o
    rw [e] at h
    cases oc with
    | type t =>
      cases dt with
      | cls cd =>
        obtain ⟨h1, h⟩ := ba h
        obtain ⟨h2, h⟩ := ba h
        obtain ⟨h3, h⟩ := ba h
        obtain ⟨h4, h5⟩ := ba h
        have e1 := of_decide_eq_true h1
        subst e1
        obtain ⟨nm', bs, mro, N, q, hd, sn, sub, ab, col, del⟩ := cd
        have e3 : hd = true := h3
        have e4 : del = false := by cases del with
          | false => rfl
          | true => cases h4
        subst e3
        subst e4
        cases mro with
        | nil => cases h2
        | cons c bm =>
          cases c with
          | ref C' =>
            obtain ⟨h6, h7⟩ := ba h2
            obtain ⟨h8, h9⟩ := ba h7
            have e6 := of_decide_eq_true h6
            subst e6
            obtain ⟨sl⟩ := sl
            match sl, h5 with
            | [k0, k1, k2, k3, some (.builtin s), k5], h5 =>
              have e7 : s = "Exception.__new__" := of_decide_eq_true h5
              subst e7
              exact ⟨nm', q, N, bs, bm, sn, sub, ab, col, od, k0, k1, k2, k3, k5, rfl, h8, eqO_ok h9⟩
          | _ => cases h2
      | _ => cases h
    | _ => cases h
/-! the parts of an error's __init__ -/
def fdOf (K : PySem.W.Frag) (f : Addr) : Option FuncData := match K.lookup f with
  | some ⟨_, _, .func fd, _⟩ => some fd
  | _ => none
def cellOf (K : PySem.W.Frag) (a : Addr) : Option Addr := match K.lookup a with
  | some ⟨_, _, .cell (some (.ref C)), _⟩ => some C
  | _ => none
def seqOf (K : PySem.W.Frag) (a : Addr) : Option (Array Value) := match K.lookup a with
  | some ⟨_, _, .seq its _, _⟩ => some its
  | _ => none
def fldsOf (K : PySem.W.Frag) (a : Addr) : Option (Array Value) := match K.lookup a with
  | some ⟨_, _, .fields vs, _⟩ => some vs
  | _ => none
def refOf : Value → Option Addr
  | .ref a => some a
  | _ => none
def strOf : Option Value → Option Str
  | some (.str x _) => some x
  | _ => none
def cloOf : List (Str × Addr) → Option (Str × Addr)
  | [p] => some p
  | _ => none
theorem fdOf_ok {K : PySem.W.Frag} {f : Addr} {fd : FuncData} (h : fdOf K f = some fd) : ∃ oc od osl, K.lookup f = some ⟨oc, od, .func fd, osl⟩ := by
  unfold fdOf at h
  cases e : K.lookup f with
  | none => rw [e] at h; cases h
  | some o =>
    obtain ⟨oc, od, dt, sl⟩ := o
    rw [e] at h
    cases dt with
    | func fd' => cases h; exact ⟨oc, od, sl, rfl⟩
    | _ => cases h
theorem cellOf_ok {K : PySem.W.Frag} {f C : Addr} (h : cellOf K f = some C) : ∃ oc od osl, K.lookup f = some ⟨oc, od, .cell (some (.ref C)), osl⟩ := by
  unfold cellOf at h
  cases e : K.lookup f with
  | none => rw [e] at h; cases h
  | some o =>
    obtain ⟨oc, od, dt, sl⟩ := o
    rw [e] at h
    cases dt with
    | cell v =>
      cases v with
      | none => cases h
      | some v =>
        cases v with
        | ref a => cases h; exact ⟨oc, od, sl, rfl⟩
        | _ => cases h
    | _ => cases h
theorem seqOf_ok {K : PySem.W.Frag} {f : Addr} {its : Array Value} (h : seqOf K f = some its) : ∃ oc od n osl, K.lookup f = some ⟨oc, od, .seq its n, osl⟩ := by
  unfold seqOf at h
  cases e : K.lookup f with
  | none => rw [e] at h; cases h
  | some o =>
    obtain ⟨oc, od, dt, sl⟩ := o
    rw [e] at h
    cases dt with
    | seq i n => cases h; exact ⟨oc, od, n, sl, rfl⟩
    | _ => cases h
theorem fldsOf_ok {K : PySem.W.Frag} {f : Addr} {vs : Array Value} (h : fldsOf K f = some vs) : ∃ oc od osl, K.lookup f = some ⟨oc, od, .fields vs, osl⟩ := by
  unfold fldsOf at h
  cases e : K.lookup f with
  | none => rw [e] at h; cases h
  | some o =>
    obtain ⟨oc, od, dt, sl⟩ := o
    rw [e] at h
    cases dt with
    | fields i => cases h; exact ⟨oc, od, sl, rfl⟩
    | _ => cases h
theorem refOf_ok {v : Value} {a : Addr} (h : refOf v = some a) : v = .ref a := by
  cases v with
  | ref b => cases h; rfl
  | _ => cases h
theorem strOf_ok {v : Option Value} {x : Str} (h : strOf v = some x) : ∃ t, v = some (.str x t) := by
  cases v with
  | none => cases h
  | some v =>
    cases v with
    | str y t => cases h; exact ⟨t, rfl⟩
    | _ => cases h
theorem cloOf_ok {l : List (Str × Addr)} {p : Str × Addr} (h : cloOf l = some p) : l = [p] := by
  cases l with
  | nil => cases h
  | cons q r =>
    cases r with
    | nil => cases h; rfl
    | cons _ _ => cases h
def isT {α : Type} (o : Option α) (k : α → Bool) : Bool := match o with
  | some a => k a
  | none => false
theorem isT_ok {α : Type} {o : Option α} {k : α → Bool} (h : isT o k = true) : ∃ a, o = some a ∧ k a = true := by
  cases o with
  | none => cases h
  | some a => exact ⟨a, rfl, h⟩
def xfnB (K : PySem.W.Frag) (C f : Addr) (q file : Str) : Bool := isT (fdOf K f) fun fd => isT (cloOf fd.closure) fun p => isT (refOf fd.defaults) fun T => isT (refOf fd.code) fun cda => isT (cellOf K p.2) fun C' => isT (seqOf K T) fun its => isT (fldsOf K cda) fun vs => isT (strOf vs[2]?) fun fl =>
  decide (p.1 = "__class__") && (decide (C' = C) && (decide (its.size = 1) && (PySem.W.codeIn K (.ref cda) q && (file == fl))))
abbrev FnC : Type := Option (Str × Str × Arguments × FuncBody × Scope × Addr × Addr)
def fnC (K : PySem.W.Frag) (f : Addr) : FnC := (fdOf K f).map fun fd => (fd.name, fd.qualname, fd.params, fd.body, fd.scope, fd.globals, fd.builtins)
def valC (q : Str) (st : Stmt) : FnC := some ("__init__", q, defArgs st, .stmts (defBody st), defScope st, mainGlobals, builtinsNs)
theorem xfn_ok {K : PySem.W.Frag} {C f : Addr} {q file : Str} {pa : Arguments} {bo : List Stmt} {sc : Scope} (h : xfnB K C f q file = true) (e : fnC K f = (some (("__init__" : Str), q, pa, FuncBody.stmts bo, sc, mainGlobals, builtinsNs) : FnC)) :
    ∃ (oc : Value) (od : Option Addr) (T : Addr) (oT : Obj) (itsT : Array Value) (nT : Nat) (kV doc pm : Value) (an : Option Addr) (cda cc : Addr) (ct : Value) (osl : Array (Option Value)) (vs : Array Value) (fl : Str) (tf : Tok) (ccl cl : Value) (cdd cld : Option Addr) (ccs csl : Array (Option Value)),
    K.lookup f = some ⟨oc, od, .func (PySem.W.fnX "__init__" q pa bo sc [("__class__", cc)] (.ref T) kV doc pm an (.ref cda) ct), osl⟩ ∧ PySem.W.codeIn K (.ref cda) q = true ∧
    K.lookup T = some oT ∧ oT.data = .seq itsT nT ∧ itsT.size = 1 ∧
    K.lookup cda = some ⟨ccl, cdd, .fields vs, ccs⟩ ∧ vs[2]? = some (.str fl tf) ∧ (file == fl) = true ∧
    K.lookup cc = some ⟨cl, cld, .cell (some (.ref C)), csl⟩ := by
  obtain ⟨fd, e1, h⟩ := isT_ok h
  obtain ⟨p, e2, h⟩ := isT_ok h
  obtain ⟨T, e3, h⟩ := isT_ok h
  obtain ⟨cda, e4, h⟩ := isT_ok h
  obtain ⟨C', e5, h⟩ := isT_ok h
  obtain ⟨its, e6, h⟩ := isT_ok h
  obtain ⟨vs, e7, h⟩ := isT_ok h
  obtain ⟨fl, e8, h⟩ := isT_ok h
  obtain ⟨k1, h⟩ := ba h
  obtain ⟨k2, h⟩ := ba h
  obtain ⟨k3, h⟩ := ba h
  obtain ⟨k4, k5⟩ := ba h
  obtain ⟨oc, od, osl, lf⟩ := fdOf_ok e1
  have c1 := cloOf_ok e2
  have c2 := refOf_ok e3
  have c3 := refOf_ok e4
  obtain ⟨cl, cld, csl, lc⟩ := cellOf_ok e5
  obtain ⟨tc, td, nT, ts, lT⟩ := seqOf_ok e6
  obtain ⟨ccl, cdd, ccs, ld⟩ := fldsOf_ok e7
  obtain ⟨tf, lv⟩ := strOf_ok e8
  obtain ⟨z, cc⟩ := p
  have d1 : z = "__class__" := of_decide_eq_true k1
  have d2 : C' = C := of_decide_eq_true k2
  subst d1
  subst d2
  unfold fnC at e
  rw [e1, Option.map_some] at e
  obtain ⟨n1, n2, n3, n4, n5, n6, n7, n8, n9, n10, n11, n12, n13, n14, n15⟩ := fd
  have e' := Option.some.inj e
  simp only [Prod.mk.injEq] at e'
  obtain ⟨h1, h2, h3, h4, h5, h6, h7⟩ := e'
  have c1' : n7 = [(("__class__" : Str), cc)] := c1
  have c2' : n8 = .ref T := c2
  have c3' : n13 = .ref cda := c3
  subst h1
  subst h2
  subst h3
  subst h4
  subst h5
  subst h6
  subst h7
  subst c1'
  subst c2'
  subst c3'
  exact ⟨oc, od, T, _, its, nT, n9, n10, n11, n12, cda, cc, n14, osl, vs, fl, tf, ccl, cl, cdd, cld, ccs, csl, lf, k4, lT, rfl, of_decide_eq_true k3, ld, lv, k5, lc⟩
end Ws
end
section
set_option Elab.async false
set_option linter.all false
set_option maxRecDepth 100000
set_option maxHeartbeats 4000000
/-! K53: the text's facts, the Hook, every def in its place. -/
namespace Ws
open PySem PySem.Spec PyProof.Rows L2 He
set_option autoImplicit false
def dd_is_integer : DefD := ⟨("is_integer", none), "is_integer", "is_integer", defArgs s_is_integer, defBody s_is_integer, defScope s_is_integer, [], []⟩
def dd_is_number : DefD := ⟨("is_number", none), "is_number", "is_number", defArgs s_is_number, defBody s_is_number, defScope s_is_number, [], []⟩
def dd_is_below : DefD := ⟨("is_below", none), "is_below", "is_below", defArgs s_is_below, defBody s_is_below, defScope s_is_below, [], []⟩
def dd_is_sequence : DefD := ⟨("is_sequence", none), "is_sequence", "is_sequence", defArgs s_is_sequence, defBody s_is_sequence, defScope s_is_sequence, [], []⟩
def dd_rising_rows : DefD := ⟨("rising_rows", none), "rising_rows", "rising_rows", defArgs s_rising_rows, defBody s_rising_rows, defScope s_rising_rows, [], []⟩
def dd_without : DefD := ⟨("without", none), "without", "without", defArgs s_without, defBody s_without, defScope s_without, [], []⟩
def dd_need_sizes : DefD := ⟨("need_sizes", none), "need_sizes", "need_sizes", defArgs s_need_sizes, defBody s_need_sizes, defScope s_need_sizes, [], []⟩
def dd_Book : DefD := ⟨("Book", some "__init__"), "__init__", "Book.__init__", defArgs s_Book, defBody s_Book, defScope s_Book, [], []⟩
def dd_need_book : DefD := ⟨("need_book", none), "need_book", "need_book", defArgs s_need_book, defBody s_need_book, defScope s_need_book, [], []⟩
def dd_come_along : DefD := ⟨("come_along", none), "come_along", "come_along", defArgs s_come_along, defBody s_come_along, defScope s_come_along, [], []⟩
def dd_goer_without : DefD := ⟨("goer_without", none), "goer_without", "goer_without", defArgs s_goer_without, defBody s_goer_without, defScope s_goer_without, [], []⟩
def dd_goers_of : DefD := ⟨("goers_of", none), "goers_of", "goers_of", defArgs s_goers_of, defBody s_goers_of, defScope s_goers_of, [], []⟩
def dd_wide_lots : DefD := ⟨("wide_lots", none), "wide_lots", "wide_lots", defArgs s_wide_lots, defBody s_wide_lots, defScope s_wide_lots, [], []⟩
def dd_bad_lots : DefD := ⟨("bad_lots", none), "bad_lots", "bad_lots", defArgs s_bad_lots, defBody s_bad_lots, defScope s_bad_lots, [], []⟩
def dd_is_steady : DefD := ⟨("is_steady", none), "is_steady", "is_steady", defArgs s_is_steady, defBody s_is_steady, defScope s_is_steady, [], []⟩
def dd_need_steady : DefD := ⟨("need_steady", none), "need_steady", "need_steady", defArgs s_need_steady, defBody s_need_steady, defScope s_need_steady, [], []⟩
def dd_need_house_books : DefD := ⟨("need_house_books", none), "need_house_books", "need_house_books", defArgs s_need_house_books, defBody s_need_house_books, defScope s_need_house_books, [], []⟩
def dd_need_steady_books : DefD := ⟨("need_steady_books", none), "need_steady_books", "need_steady_books", defArgs s_need_steady_books, defBody s_need_steady_books, defScope s_need_steady_books, [], []⟩
def dd_kept_by : DefD := ⟨("kept_by", none), "kept_by", "kept_by", defArgs s_kept_by, defBody s_kept_by, defScope s_kept_by, [], []⟩
def dd_need_roads : DefD := ⟨("need_roads", none), "need_roads", "need_roads", defArgs s_need_roads, defBody s_need_roads, defScope s_need_roads, [], []⟩
def dd_reached_from : DefD := ⟨("reached_from", none), "reached_from", "reached_from", defArgs s_reached_from, defBody s_reached_from, defScope s_reached_from, [], []⟩
def dd_wanted_books : DefD := ⟨("wanted_books", none), "wanted_books", "wanted_books", defArgs s_wanted_books, defBody s_wanted_books, defScope s_wanted_books, [], []⟩
def dd_Live : DefD := ⟨("Live", some "__init__"), "__init__", "Live.__init__", defArgs s_Live, defBody s_Live, defScope s_Live, [], []⟩
def dd_Live_need_hand : DefD := ⟨("Live", some "need_hand"), "need_hand", "Live.need_hand", defArgs s_Live_need_hand, defBody s_Live_need_hand, defScope s_Live_need_hand, [], []⟩
def dd_Live_need_two_hands : DefD := ⟨("Live", some "need_two_hands"), "need_two_hands", "Live.need_two_hands", defArgs s_Live_need_two_hands, defBody s_Live_need_two_hands, defScope s_Live_need_two_hands, [], []⟩
def dd_Live_list_of : DefD := ⟨("Live", some "list_of"), "list_of", "Live.list_of", defArgs s_Live_list_of, defBody s_Live_list_of, defScope s_Live_list_of, [], []⟩
def dd_Live_settle : DefD := ⟨("Live", some "settle"), "settle", "Live.settle", defArgs s_Live_settle, defBody s_Live_settle, defScope s_Live_settle, [], []⟩
def dd_Live_hear : DefD := ⟨("Live", some "hear"), "hear", "Live.hear", defArgs s_Live_hear, defBody s_Live_hear, defScope s_Live_hear, [], []⟩
def dd_Live_come : DefD := ⟨("Live", some "come"), "come", "Live.come", defArgs s_Live_come, defBody s_Live_come, defScope s_Live_come, [], []⟩
def dd_Live_send : DefD := ⟨("Live", some "send"), "send", "Live.send", defArgs s_Live_send, defBody s_Live_send, defScope s_Live_send, [], []⟩
def dd_Live_undo_deed : DefD := ⟨("Live", some "undo_deed"), "undo_deed", "Live.undo_deed", defArgs s_Live_undo_deed, defBody s_Live_undo_deed, defScope s_Live_undo_deed, [], []⟩
def dd_Live_redo_deed : DefD := ⟨("Live", some "redo_deed"), "redo_deed", "Live.redo_deed", defArgs s_Live_redo_deed, defBody s_Live_redo_deed, defScope s_Live_redo_deed, [], []⟩
def dd__law_draw : DefD := ⟨("_law_draw", none), "_law_draw", "_law_draw", defArgs s__law_draw, defBody s__law_draw, defScope s__law_draw, [], []⟩
def dd__law_any : DefD := ⟨("_law_any", none), "_law_any", "_law_any", defArgs s__law_any, defBody s__law_any, defScope s__law_any, [], []⟩
def dd__law_of : DefD := ⟨("_law_of", none), "_law_of", "_law_of", defArgs s__law_of, defBody s__law_of, defScope s__law_of, [], []⟩
def dd__law_order : DefD := ⟨("_law_order", none), "_law_order", "_law_order", defArgs s__law_order, defBody s__law_order, defScope s__law_order, [], []⟩
def dd__law_rows : DefD := ⟨("_law_rows", none), "_law_rows", "_law_rows", defArgs s__law_rows, defBody s__law_rows, defScope s__law_rows, [], []⟩
def dd__law_less : DefD := ⟨("_law_less", none), "_law_less", "_law_less", defArgs s__law_less, defBody s__law_less, defScope s__law_less, [], []⟩
def dd__law_taken : DefD := ⟨("_law_taken", none), "_law_taken", "_law_taken", defArgs s__law_taken, defBody s__law_taken, defScope s__law_taken, [], []⟩
def dd__law_calm : DefD := ⟨("_law_calm", none), "_law_calm", "_law_calm", defArgs s__law_calm, defBody s__law_calm, defScope s__law_calm, [], []⟩
def dd__law_table : DefD := ⟨("_law_table", none), "_law_table", "_law_table", defArgs s__law_table, defBody s__law_table, defScope s__law_table, [], []⟩
def dd__law_list : DefD := ⟨("_law_list", none), "_law_list", "_law_list", defArgs s__law_list, defBody s__law_list, defScope s__law_list, [], []⟩
def dd__law_truth : DefD := ⟨("_law_truth", none), "_law_truth", "_law_truth", defArgs s__law_truth, defBody s__law_truth, defScope s__law_truth, [], []⟩
def dd__law_house : DefD := ⟨("_law_house", none), "_law_house", "_law_house", defArgs s__law_house, defBody s__law_house, defScope s__law_house, [], []⟩
def dd__law_reach : DefD := ⟨("_law_reach", none), "_law_reach", "_law_reach", defArgs s__law_reach, defBody s__law_reach, defScope s__law_reach, [], []⟩
def dd__law_kept : DefD := ⟨("_law_kept", none), "_law_kept", "_law_kept", defArgs s__law_kept, defBody s__law_kept, defScope s__law_kept, [], []⟩
def dd__law_wrong : DefD := ⟨("_law_wrong", none), "_law_wrong", "_law_wrong", defArgs s__law_wrong, defBody s__law_wrong, defScope s__law_wrong, [], []⟩
def dd__law_refused : DefD := ⟨("_law_refused", none), "_law_refused", "_law_refused", defArgs s__law_refused, defBody s__law_refused, defScope s__law_refused, [], []⟩
def dd__law_bad : DefD := ⟨("_law_bad", none), "_law_bad", "_law_bad", defArgs s__law_bad, defBody s__law_bad, defScope s__law_bad, [], []⟩
def dd__law_deeds : DefD := ⟨("_law_deeds", none), "_law_deeds", "_law_deeds", defArgs s__law_deeds, defBody s__law_deeds, defScope s__law_deeds, [], []⟩
def dd__law_alone : DefD := ⟨("_law_alone", none), "_law_alone", "_law_alone", defArgs s__law_alone, defBody s__law_alone, defScope s__law_alone, [], []⟩
def dd__law_built : DefD := ⟨("_law_built", none), "_law_built", "_law_built", defArgs s__law_built, defBody s__law_built, defScope s__law_built, [], []⟩
def dd__law_refusals : DefD := ⟨("_law_refusals", none), "_law_refusals", "_law_refusals", defArgs s__law_refusals, defBody s__law_refusals, defScope s__law_refusals, [], []⟩
def dd_law : DefD := ⟨("law", none), "law", "law", defArgs s_law, defBody s_law, defScope s_law, [], []⟩
def fn : List DefD := [dd_is_integer, dd_is_number, dd_is_below, dd_is_sequence, dd_rising_rows, dd_without, dd_need_sizes, dd_Book, dd_need_book, dd_come_along, dd_goer_without, dd_goers_of, dd_wide_lots, dd_bad_lots, dd_is_steady, dd_need_steady, dd_need_house_books, dd_need_steady_books, dd_kept_by, dd_need_roads, dd_reached_from, dd_wanted_books, dd_Live, dd_Live_need_hand, dd_Live_need_two_hands, dd_Live_list_of, dd_Live_settle, dd_Live_hear, dd_Live_come, dd_Live_send, dd_Live_undo_deed, dd_Live_redo_deed, dd__law_draw, dd__law_any, dd__law_of, dd__law_order, dd__law_rows, dd__law_less, dd__law_taken, dd__law_calm, dd__law_table, dd__law_list, dd__law_truth, dd__law_house, dd__law_reach, dd__law_kept, dd__law_wrong, dd__law_refused, dd__law_bad, dd__law_deeds, dd__law_alone, dd__law_built, dd__law_refusals, dd_law]
def fa : List Fa := [.free "isinstance", .free "int", .free "bool", .free "list", .free "tuple", .free "range", .free "len", .free "enumerate", .free "zip", .free "dict", .free "sorted", .free "all", .free "abs", .free "min", .free "super", .glo "Book", .glo "Live", .int "MOST_THINGS" 9, .int "MOST_BOOKS" 6, .cls "Book", .cls "Live", .noat "Book" "many", .noat "Book" "places", .noat "Book" "goers", .noat "Book" "by_lot", .noat "Live" "books", .noat "Live" "roads", .noat "Live" "kept", .noat "Live" "elder_states", .noat "Live" "later_states", .glo "InvalidBook", .glo "InvalidRoads", .glo "NotSteady", .glo "Refused", .exm "InvalidBook" "InvalidBook" true, .exm "InvalidRoads" "InvalidBook" false, .exm "InvalidRoads" "InvalidRoads" true, .exm "NotSteady" "InvalidBook" false, .exm "NotSteady" "InvalidRoads" false, .exm "NotSteady" "NotSteady" true, .exm "Refused" "Refused" true, .glo "is_integer", .glo "is_number", .glo "is_below", .glo "is_sequence", .glo "rising_rows", .glo "without", .glo "need_sizes", .mkr "Book", .glo "need_book", .glo "come_along", .glo "goer_without", .glo "goers_of", .glo "wide_lots", .glo "bad_lots", .glo "is_steady", .glo "need_steady", .glo "need_house_books", .glo "need_steady_books", .glo "kept_by", .glo "need_roads", .glo "reached_from", .glo "wanted_books", .mkr "Live", .meth "Live" "need_hand", .meth "Live" "need_two_hands", .meth "Live" "list_of", .meth "Live" "settle", .meth "Live" "hear", .meth "Live" "come", .meth "Live" "send", .meth "Live" "undo_deed", .meth "Live" "redo_deed", .glo "_law_draw", .glo "_law_any", .glo "_law_of", .glo "_law_order", .glo "_law_rows", .glo "_law_less", .glo "_law_taken", .glo "_law_calm", .glo "_law_table", .glo "_law_list", .glo "_law_truth", .glo "_law_house", .glo "_law_reach", .glo "_law_kept", .glo "_law_wrong", .glo "_law_refused", .glo "_law_bad", .glo "_law_deeds", .glo "_law_alone", .glo "_law_built", .glo "_law_refusals", .glo "law"]
abbrev RW : PySem.W.OpenRow := PySem.W.OpenLaw.row PySem.Challenge.rw_whichstay_k54_whole_lists_right_in_house
abbrev PG : Program := (PySem.Challenge.rw_whichstay_k54_whole_lists_right_in_house).prog
def fl : Str := PG.main.file
/-! ### the errors' facts -/
def oneB (K : PySem.W.Frag) (nm q : Str) : Bool := xclsB K (ga K nm) && (eqO (PySem.W.findIn K (.ref (ga K nm)) "__setattr__") (some (some (.builtin "object.__setattr__"))) && (eqO (PySem.W.findIn K (.ref (ga K nm)) "at") (some none) && (eqO (PySem.W.findIn K (.ref (ga K nm)) "__init__") (some (some (.ref (ma K (ga K nm) "__init__")))) &&
  (decide (PySem.W.typeIn K (.ref (ma K (ga K nm) "__init__")) = some (.type "function")) && (PySem.W.keepIn K (.ref (ga K nm)) && (decide (PySem.W.subIn K (.ref (ga K nm)) (.type "BaseException") = some true) && (decide (PySem.W.subIn K (.ref (ga K nm)) (.type "Exception") = some true) &&
  (decide (PySem.W.typeIn K (.ref (ga K nm)) = some (.type "type")) && (decide (PySem.W.mroIn K (ga K nm) (.ref (ga K nm)) = some true) && (xfnB K (ga K nm) (ma K (ga K nm) "__init__") q fl && xfB K (ga K nm)))))))))))
def exs : List (Str × Str × Stmt) := [("InvalidBook", "InvalidBook.__init__", inClass (top 3) 0), ("InvalidRoads", "InvalidRoads.__init__", inClass (top 4) 0), ("NotSteady", "NotSteady.__init__", inClass (top 5) 0), ("Refused", "Refused.__init__", inClass (top 6) 0)]
def bookB (K : PySem.W.Frag) : Bool := eqO (PySem.W.findIn K (.ref (ga K "Book")) "__class__") (some (some (.builtin "object.__class__"))) && (eqO (PySem.W.specialIn K (.builtin "object.__class__") "__get__") (some (some (.builtin "getset_descriptor.__get__"))) && (decide (PySem.W.takesIn K (.builtin "object.__class__") = some true) && (decide (PySem.W.mroIn K (ga K "Book") (.type "object") = some true) &&
  (decide (PySem.W.kitOne K (.type "NoneType") (.ref (ga K "Book")) = some false) && (decide (PySem.W.kitOne K (.type "bool") (.ref (ga K "Book")) = some false) && (decide (PySem.W.kitOne K (.type "int") (.ref (ga K "Book")) = some false) && (decide (PySem.W.kitOne K (.type "str") (.ref (ga K "Book")) = some false) && (decide (PySem.W.kitOne K (.type "tuple") (.ref (ga K "Book")) = some false) && (decide (PySem.W.kitOne K (.type "list") (.ref (ga K "Book")) = some false) && !decide (ga K "Book" = ga K "Live"))))))))))
def exB (K : PySem.W.Frag) : Bool := (exs.all fun e => oneB K e.1 e.2.1) && (eqO (PySem.W.nsIn K cStatics "thirdparty.any") (some none) && bookB K)
abbrev AlY : Type := AlD × Bool × List FnC
def obsY (K : PySem.W.Frag) : AlY := (obsD fa fn K, exB K, exs.map fun e => fnC K (ma K (ga K e.1) "__init__"))
def valY : AlY := (valD fn, true, exs.map fun e => valC e.2.1 e.2.2)
def obsYG (n : Nat) (g : Addr → Option Obj) : AlY := obsY (frG g (cStatics :: asD g n))
def SaysY (K : PySem.W.Frag) : Prop := obsY K = valY
def hookY (n : Nat) : PySem.W.Hook where
  α := AlY
  obs := fun s => obsYG n s.heap.get?
  val := fun _ => valY
  says := fun _ h => ∃ K : PySem.W.Frag, K.In h ∧ SaysY K
  of := fun _ _ e => ⟨_, frG_in, e⟩
  keeps := fun _ _ _ ⟨K, hK, c⟩ k => ⟨K, PySem.W.Frag.In.keeps hK k, c⟩
theorem obsYG_eq {n : Nat} {g : Addr → Option Obj} {s : Shared} (h : ∀ a, g a = s.heap.get? a) : obsYG n g = (hookY n).obs s := by
  have e : g = s.heap.get? := funext h
  rw [e] <;> rfl
def obY (s : PySem.W.SharedT) : AlY := obsYG 5 (HandSHeadRun.getT s)
theorem obY_eq (s : PySem.W.SharedT) : obY s = (hookY 5).obs s.abs := obsYG_eq (HandSHeadRun.getT_eq s)
section
variable {K : PySem.W.Frag}
theorem SaysY.d (c : SaysY K) : SaysD fa fn K := congrArg (fun z : AlY => z.1) c
theorem SaysY.b (c : SaysY K) : exB K = true := congrArg (fun z : AlY => z.2.1) c
theorem SaysY.f (c : SaysY K) (i : Nat) {e : Str × Str × Stmt} (h : exs[i]? = some e) : fnC K (ma K (ga K e.1) "__init__") = valC e.2.1 e.2.2 ∧ oneB K e.1 e.2.1 = true := by
  have e1 : (exs.map fun e => fnC K (ma K (ga K e.1) "__init__")) = exs.map fun e => valC e.2.1 e.2.2 := congrArg (fun z : AlY => z.2.2) c
  have e2 : (exs.map fun e => fnC K (ma K (ga K e.1) "__init__"))[i]? = (exs.map fun e => valC e.2.1 e.2.2)[i]? := by rw [e1]
  rw [List.getElem?_map, List.getElem?_map, h] at e2
  exact ⟨Option.some.inj e2, List.all_eq_true.mp (ba c.b).1 e (List.mem_of_getElem? h)⟩
theorem x_ok {mg : Str → Option Value} {nm q : Str} {st : Stmt} (hb : oneB K nm q = true) (he : fnC K (ma K (ga K nm) "__init__") = valC q st) (gC : mg nm = some (.ref (ga K nm))) (opq : PySem.W.nsIn K cStatics "thirdparty.any" = some none) (gS : mg "super" = none)
    (ht : ∃ p1 p2 dfl msg q0 q1 q2 q3 q4 q5 r1 r2 r3 r4, defArgs st = PySem.XSI.iA p1 p2 dfl ∧ defBody st = PySem.XSI.iB msg q0 q1 q2 q3 q4 q5 r1 r2 r3 r4 ∧ defScope st = PySem.XSI.iS ∧ PySem.XSI.MC msg q0 q1 q2 q3 q4) (hs : (PG.main.scope.names.lookup ("super" : Str)).isSome = false) :
    PySem.XSI.XTxt PG K mg nm (ga K nm) (ma K (ga K nm) "__init__") ∧ XfC K (ga K nm) := by
  obtain ⟨b1, hb⟩ := ba hb
  obtain ⟨b2, hb⟩ := ba hb
  obtain ⟨b3, hb⟩ := ba hb
  obtain ⟨b4, hb⟩ := ba hb
  obtain ⟨b5, hb⟩ := ba hb
  obtain ⟨b6, hb⟩ := ba hb
  obtain ⟨b7, hb⟩ := ba hb
  obtain ⟨b8, hb⟩ := ba hb
  obtain ⟨b9, hb⟩ := ba hb
  obtain ⟨b10, hb⟩ := ba hb
  obtain ⟨b11, b12⟩ := ba hb
  obtain ⟨p1, p2, dfl, msg, q0, q1, q2, q3, q4, q5, r1, r2, r3, r4, t1, t2, t3, t4⟩ := ht
  unfold valC at he
  rw [t1, t2, t3] at he
  obtain ⟨oc, od, T, oT, its, nT, kV, doc, pm, an, cda, cc, ct, osl, vs, file, tf, ccl, cl, cdd, cld, ccs, csl, w1, w2, w3, w4, w5, w6, w7, w8, w9⟩ := xfn_ok b11 he
  refine ⟨⟨gC, xcls_ok b1, eqO_ok b2, eqO_ok b3, eqO_ok b4, of_decide_eq_true b5, b6, of_decide_eq_true b7, of_decide_eq_true b8, of_decide_eq_true b9, of_decide_eq_true b10, opq, gS, hs, ?_⟩, xfB_ok b12⟩
  exact ⟨oc, od, T, oT, its, nT, kV, doc, pm, an, cda, cc, ct, osl, q, msg, p1, p2, q0, q1, q2, q3, q4, q5, r1, r2, r3, r4, dfl, vs, file, tf, ccl, cl, cdd, cld, ccs, csl, w1, w2, w3, w4, w5, w6, w7, w8, w9, t4⟩
end
theorem tx1 : ∃ p1 p2 dfl msg q0 q1 q2 q3 q4 q5 r1 r2 r3 r4, defArgs (inClass (top 3) 0) = PySem.XSI.iA p1 p2 dfl ∧ defBody (inClass (top 3) 0) = PySem.XSI.iB msg q0 q1 q2 q3 q4 q5 r1 r2 r3 r4 ∧ defScope (inClass (top 3) 0) = PySem.XSI.iS ∧ PySem.XSI.MC msg q0 q1 q2 q3 q4 :=
  ⟨_, _, _, _, _, _, _, _, _, _, _, _, _, _, rfl, rfl, rfl, ⟨fun _ => _, fun _ => rfl⟩⟩
theorem tx2 : ∃ p1 p2 dfl msg q0 q1 q2 q3 q4 q5 r1 r2 r3 r4, defArgs (inClass (top 4) 0) = PySem.XSI.iA p1 p2 dfl ∧ defBody (inClass (top 4) 0) = PySem.XSI.iB msg q0 q1 q2 q3 q4 q5 r1 r2 r3 r4 ∧ defScope (inClass (top 4) 0) = PySem.XSI.iS ∧ PySem.XSI.MC msg q0 q1 q2 q3 q4 :=
  ⟨_, _, _, _, _, _, _, _, _, _, _, _, _, _, rfl, rfl, rfl, ⟨fun _ => _, fun _ => rfl⟩⟩
theorem tx3 : ∃ p1 p2 dfl msg q0 q1 q2 q3 q4 q5 r1 r2 r3 r4, defArgs (inClass (top 5) 0) = PySem.XSI.iA p1 p2 dfl ∧ defBody (inClass (top 5) 0) = PySem.XSI.iB msg q0 q1 q2 q3 q4 q5 r1 r2 r3 r4 ∧ defScope (inClass (top 5) 0) = PySem.XSI.iS ∧ PySem.XSI.MC msg q0 q1 q2 q3 q4 :=
  ⟨_, _, _, _, _, _, _, _, _, _, _, _, _, _, rfl, rfl, rfl, ⟨fun _ => _, fun _ => rfl⟩⟩
theorem tx4 : ∃ p1 p2 dfl msg q0 q1 q2 q3 q4 q5 r1 r2 r3 r4, defArgs (inClass (top 6) 0) = PySem.XSI.iA p1 p2 dfl ∧ defBody (inClass (top 6) 0) = PySem.XSI.iB msg q0 q1 q2 q3 q4 q5 r1 r2 r3 r4 ∧ defScope (inClass (top 6) 0) = PySem.XSI.iS ∧ PySem.XSI.MC msg q0 q1 q2 q3 q4 :=
  ⟨_, _, _, _, _, _, _, _, _, _, _, _, _, _, rfl, rfl, rfl, ⟨fun _ => _, fun _ => rfl⟩⟩
theorem noSuper : (PG.main.scope.names.lookup ("super" : Str)).isSome = false := by decide +kernel
def cs (K : PySem.W.Frag) : Cs := ⟨ga K "Book", ga K "Live", ga K "InvalidBook", ga K "InvalidRoads", ga K "NotSteady", ga K "Refused"⟩
theorem txt {K : PySem.W.Frag} {h : Heap} {mg : Str → Option Value} (X : K.In h) (G : h.Ns mainGlobals mg) (c : SaysY K) : ∃ t9 t6, Txt PG K mg (cs K).CB (cs K).CL (cs K).C1 (cs K).C2 (cs K).C3 (cs K).C4 (ma K (cs K).C1 "__init__") (ma K (cs K).C2 "__init__") (ma K (cs K).C3 "__init__") (ma K (cs K).C4 "__init__") t9 t6 := by
  obtain ⟨t9, h9⟩ := int_ok X G (c.d.fact 17 (f := .int "MOST_THINGS" 9) rfl)
  obtain ⟨t6, h6⟩ := int_ok X G (c.d.fact 18 (f := .int "MOST_BOOKS" 6) rfl)
  have hb := c.b
  obtain ⟨_, hb⟩ := ba hb
  obtain ⟨o1, hb⟩ := ba hb
  have opq := eqO_ok o1
  have gS := free_ok X G (c.d.fact 14 (f := .free "super") rfl)
  obtain ⟨b1, hb⟩ := ba hb
  obtain ⟨b2, hb⟩ := ba hb
  obtain ⟨b3, hb⟩ := ba hb
  obtain ⟨b4, hb⟩ := ba hb
  obtain ⟨b5, hb⟩ := ba hb
  obtain ⟨b6, hb⟩ := ba hb
  obtain ⟨b7, hb⟩ := ba hb
  obtain ⟨b8, hb⟩ := ba hb
  obtain ⟨b9, hb⟩ := ba hb
  obtain ⟨b10, b11⟩ := ba hb
  have x1 := x_ok (c.f 0 (e := ("InvalidBook", "InvalidBook.__init__", inClass (top 3) 0)) rfl).2 (c.f 0 (e := ("InvalidBook", "InvalidBook.__init__", inClass (top 3) 0)) rfl).1 (glo_ok X G (c.d.fact 30 (f := .glo "InvalidBook") rfl)) opq gS tx1 noSuper
  have x2 := x_ok (c.f 1 (e := ("InvalidRoads", "InvalidRoads.__init__", inClass (top 4) 0)) rfl).2 (c.f 1 (e := ("InvalidRoads", "InvalidRoads.__init__", inClass (top 4) 0)) rfl).1 (glo_ok X G (c.d.fact 31 (f := .glo "InvalidRoads") rfl)) opq gS tx2 noSuper
  have x3 := x_ok (c.f 2 (e := ("NotSteady", "NotSteady.__init__", inClass (top 5) 0)) rfl).2 (c.f 2 (e := ("NotSteady", "NotSteady.__init__", inClass (top 5) 0)) rfl).1 (glo_ok X G (c.d.fact 32 (f := .glo "NotSteady") rfl)) opq gS tx3 noSuper
  have x4 := x_ok (c.f 3 (e := ("Refused", "Refused.__init__", inClass (top 6) 0)) rfl).2 (c.f 3 (e := ("Refused", "Refused.__init__", inClass (top 6) 0)) rfl).1 (glo_ok X G (c.d.fact 33 (f := .glo "Refused") rfl)) opq gS tx4 noSuper
  exact ⟨t9, t6, ⟨free_ok X G (c.d.fact 0 (f := .free "isinstance") rfl), free_ok X G (c.d.fact 1 (f := .free "int") rfl), free_ok X G (c.d.fact 2 (f := .free "bool") rfl), free_ok X G (c.d.fact 3 (f := .free "list") rfl), free_ok X G (c.d.fact 4 (f := .free "tuple") rfl), free_ok X G (c.d.fact 5 (f := .free "range") rfl), free_ok X G (c.d.fact 6 (f := .free "len") rfl), free_ok X G (c.d.fact 7 (f := .free "enumerate") rfl), free_ok X G (c.d.fact 8 (f := .free "zip") rfl), free_ok X G (c.d.fact 9 (f := .free "dict") rfl), free_ok X G (c.d.fact 10 (f := .free "sorted") rfl), free_ok X G (c.d.fact 11 (f := .free "all") rfl), free_ok X G (c.d.fact 12 (f := .free "abs") rfl), free_ok X G (c.d.fact 13 (f := .free "min") rfl), glo_ok X G (c.d.fact 15 (f := .glo "Book") rfl), h9, h6, cls_ok (c.d.fact 19 (f := .cls "Book") rfl), cls_ok (c.d.fact 20 (f := .cls "Live") rfl), noat_ok (c.d.fact 21 (f := .noat "Book" "many") rfl), noat_ok (c.d.fact 22 (f := .noat "Book" "places") rfl), noat_ok (c.d.fact 23 (f := .noat "Book" "goers") rfl), noat_ok (c.d.fact 24 (f := .noat "Book" "by_lot") rfl), noat_ok (c.d.fact 25 (f := .noat "Live" "books") rfl), noat_ok (c.d.fact 26 (f := .noat "Live" "roads") rfl), noat_ok (c.d.fact 27 (f := .noat "Live" "kept") rfl), noat_ok (c.d.fact 28 (f := .noat "Live" "elder_states") rfl), noat_ok (c.d.fact 29 (f := .noat "Live" "later_states") rfl), x1.1, x2.1, x3.1, x4.1, x1.2, x2.2, x3.2, x4.2, exm_ok (c.d.fact 34 (f := .exm "InvalidBook" "InvalidBook" true) rfl), exm_ok (c.d.fact 35 (f := .exm "InvalidRoads" "InvalidBook" false) rfl), exm_ok (c.d.fact 36 (f := .exm "InvalidRoads" "InvalidRoads" true) rfl), exm_ok (c.d.fact 37 (f := .exm "NotSteady" "InvalidBook" false) rfl), exm_ok (c.d.fact 38 (f := .exm "NotSteady" "InvalidRoads" false) rfl), exm_ok (c.d.fact 39 (f := .exm "NotSteady" "NotSteady" true) rfl), exm_ok (c.d.fact 40 (f := .exm "Refused" "Refused" true) rfl), eqO_ok b1, eqO_ok b2, of_decide_eq_true b3, of_decide_eq_true b4, of_decide_eq_true b5, of_decide_eq_true b6, of_decide_eq_true b7, of_decide_eq_true b8, of_decide_eq_true b9, of_decide_eq_true b10, (fun z => by have z2 : ga K "Book" = ga K "Live" := z; rw [decide_eq_true z2] at b11; cases b11)⟩⟩
theorem facts {w : World} {K : PySem.W.Frag} {h : Heap} {mg : Str → Option Value} {f : Addr} (X : K.In h) (G : h.Ns mainGlobals mg) (hfa : mg ("law" : Str) = some (.ref f)) (s : SaysY K) :
    ∃ fd : FuncData, (∀ (s : Shared) (v : Value), BindsTo s fd ⟨[v], []⟩ [("_law_script", v)]) ∧ ∀ base : Heap, K.In base → base.Ns mainGlobals mg → FnOk PG w K mg base CX0 12 f fd ["_law_script"] (sp_law K (cs K)) := by
  obtain ⟨t9, t6, T⟩ := txt X G s
  have sd := s.d
  obtain ⟨fd_is_integer, F_is_integer⟩ := sd.def_ 0 (d := dd_is_integer) rfl
  obtain ⟨fd_is_number, F_is_number⟩ := sd.def_ 1 (d := dd_is_number) rfl
  obtain ⟨fd_is_below, F_is_below⟩ := sd.def_ 2 (d := dd_is_below) rfl
  obtain ⟨fd_is_sequence, F_is_sequence⟩ := sd.def_ 3 (d := dd_is_sequence) rfl
  obtain ⟨fd_rising_rows, F_rising_rows⟩ := sd.def_ 4 (d := dd_rising_rows) rfl
  obtain ⟨fd_without, F_without⟩ := sd.def_ 5 (d := dd_without) rfl
  obtain ⟨fd_need_sizes, F_need_sizes⟩ := sd.def_ 6 (d := dd_need_sizes) rfl
  obtain ⟨fd_Book, F_Book⟩ := sd.def_ 7 (d := dd_Book) rfl
  obtain ⟨fd_need_book, F_need_book⟩ := sd.def_ 8 (d := dd_need_book) rfl
  obtain ⟨fd_come_along, F_come_along⟩ := sd.def_ 9 (d := dd_come_along) rfl
  obtain ⟨fd_goer_without, F_goer_without⟩ := sd.def_ 10 (d := dd_goer_without) rfl
  obtain ⟨fd_goers_of, F_goers_of⟩ := sd.def_ 11 (d := dd_goers_of) rfl
  obtain ⟨fd_wide_lots, F_wide_lots⟩ := sd.def_ 12 (d := dd_wide_lots) rfl
  obtain ⟨fd_bad_lots, F_bad_lots⟩ := sd.def_ 13 (d := dd_bad_lots) rfl
  obtain ⟨fd_is_steady, F_is_steady⟩ := sd.def_ 14 (d := dd_is_steady) rfl
  obtain ⟨fd_need_steady, F_need_steady⟩ := sd.def_ 15 (d := dd_need_steady) rfl
  obtain ⟨fd_need_house_books, F_need_house_books⟩ := sd.def_ 16 (d := dd_need_house_books) rfl
  obtain ⟨fd_need_steady_books, F_need_steady_books⟩ := sd.def_ 17 (d := dd_need_steady_books) rfl
  obtain ⟨fd_kept_by, F_kept_by⟩ := sd.def_ 18 (d := dd_kept_by) rfl
  obtain ⟨fd_need_roads, F_need_roads⟩ := sd.def_ 19 (d := dd_need_roads) rfl
  obtain ⟨fd_reached_from, F_reached_from⟩ := sd.def_ 20 (d := dd_reached_from) rfl
  obtain ⟨fd_wanted_books, F_wanted_books⟩ := sd.def_ 21 (d := dd_wanted_books) rfl
  obtain ⟨fd_Live, F_Live⟩ := sd.def_ 22 (d := dd_Live) rfl
  obtain ⟨fd_Live_need_hand, F_Live_need_hand⟩ := sd.def_ 23 (d := dd_Live_need_hand) rfl
  obtain ⟨fd_Live_need_two_hands, F_Live_need_two_hands⟩ := sd.def_ 24 (d := dd_Live_need_two_hands) rfl
  obtain ⟨fd_Live_list_of, F_Live_list_of⟩ := sd.def_ 25 (d := dd_Live_list_of) rfl
  obtain ⟨fd_Live_settle, F_Live_settle⟩ := sd.def_ 26 (d := dd_Live_settle) rfl
  obtain ⟨fd_Live_hear, F_Live_hear⟩ := sd.def_ 27 (d := dd_Live_hear) rfl
  obtain ⟨fd_Live_come, F_Live_come⟩ := sd.def_ 28 (d := dd_Live_come) rfl
  obtain ⟨fd_Live_send, F_Live_send⟩ := sd.def_ 29 (d := dd_Live_send) rfl
  obtain ⟨fd_Live_undo_deed, F_Live_undo_deed⟩ := sd.def_ 30 (d := dd_Live_undo_deed) rfl
  obtain ⟨fd_Live_redo_deed, F_Live_redo_deed⟩ := sd.def_ 31 (d := dd_Live_redo_deed) rfl
  obtain ⟨fd__law_draw, F__law_draw⟩ := sd.def_ 32 (d := dd__law_draw) rfl
  obtain ⟨fd__law_any, F__law_any⟩ := sd.def_ 33 (d := dd__law_any) rfl
  obtain ⟨fd__law_of, F__law_of⟩ := sd.def_ 34 (d := dd__law_of) rfl
  obtain ⟨fd__law_order, F__law_order⟩ := sd.def_ 35 (d := dd__law_order) rfl
  obtain ⟨fd__law_rows, F__law_rows⟩ := sd.def_ 36 (d := dd__law_rows) rfl
  obtain ⟨fd__law_less, F__law_less⟩ := sd.def_ 37 (d := dd__law_less) rfl
  obtain ⟨fd__law_taken, F__law_taken⟩ := sd.def_ 38 (d := dd__law_taken) rfl
  obtain ⟨fd__law_calm, F__law_calm⟩ := sd.def_ 39 (d := dd__law_calm) rfl
  obtain ⟨fd__law_table, F__law_table⟩ := sd.def_ 40 (d := dd__law_table) rfl
  obtain ⟨fd__law_list, F__law_list⟩ := sd.def_ 41 (d := dd__law_list) rfl
  obtain ⟨fd__law_truth, F__law_truth⟩ := sd.def_ 42 (d := dd__law_truth) rfl
  obtain ⟨fd__law_house, F__law_house⟩ := sd.def_ 43 (d := dd__law_house) rfl
  obtain ⟨fd__law_reach, F__law_reach⟩ := sd.def_ 44 (d := dd__law_reach) rfl
  obtain ⟨fd__law_kept, F__law_kept⟩ := sd.def_ 45 (d := dd__law_kept) rfl
  obtain ⟨fd__law_wrong, F__law_wrong⟩ := sd.def_ 46 (d := dd__law_wrong) rfl
  obtain ⟨fd__law_refused, F__law_refused⟩ := sd.def_ 47 (d := dd__law_refused) rfl
  obtain ⟨fd__law_bad, F__law_bad⟩ := sd.def_ 48 (d := dd__law_bad) rfl
  obtain ⟨fd__law_deeds, F__law_deeds⟩ := sd.def_ 49 (d := dd__law_deeds) rfl
  obtain ⟨fd__law_alone, F__law_alone⟩ := sd.def_ 50 (d := dd__law_alone) rfl
  obtain ⟨fd__law_built, F__law_built⟩ := sd.def_ 51 (d := dd__law_built) rfl
  obtain ⟨fd__law_refusals, F__law_refusals⟩ := sd.def_ 52 (d := dd__law_refusals) rfl
  obtain ⟨fd_law, F_law⟩ := sd.def_ 53 (d := dd_law) rfl
  have e := hfa.symm.trans (glo_ok X G (sd.fact 94 (f := .glo "law") rfl))
  cases e
  have b := FunD.bindsA (ps := ["_law_script"]) F_law fun _ _ _ _ _ _ us hl => match us, hl with | [_], _ => rfl
  refine ⟨fd_law, fun s v => b s [v] rfl, fun base _ _ => ?_⟩
  have D_is_integer : Dn PG w K mg base CX0 1 "is_integer" ["value"] (sp_is_integer (cs K)) := ⟨_, fd_is_integer, ok_is_integer (P := PG) (w := w) (mg := mg) (base := base) (c := cs K) T  (toFun F_is_integer), glo_ok X G (sd.fact 41 (f := .glo "is_integer") rfl), F_is_integer.kp, (F_is_integer.bindsN fun _ _ _ _ _ _ us hl => match us, hl with | [_], _ => rfl)⟩
  have D_is_number : Dn PG w K mg base CX0 2 "is_number" ["value"] (sp_is_number (cs K)) := ⟨_, fd_is_number, ok_is_number (P := PG) (w := w) (mg := mg) (base := base) (c := cs K) T D_is_integer (toFun F_is_number), glo_ok X G (sd.fact 42 (f := .glo "is_number") rfl), F_is_number.kp, (F_is_number.bindsN fun _ _ _ _ _ _ us hl => match us, hl with | [_], _ => rfl)⟩
  have D_is_below : Dn PG w K mg base CX0 3 "is_below" ["value", "many"] (sp_is_below (cs K)) := ⟨_, fd_is_below, ok_is_below (P := PG) (w := w) (mg := mg) (base := base) (c := cs K) T D_is_number (toFun F_is_below), glo_ok X G (sd.fact 43 (f := .glo "is_below") rfl), F_is_below.kp, (F_is_below.bindsN fun _ _ _ _ _ _ us hl => match us, hl with | [_, _], _ => rfl)⟩
  have D_is_sequence : Dn PG w K mg base CX0 1 "is_sequence" ["value"] (sp_is_sequence (cs K)) := ⟨_, fd_is_sequence, ok_is_sequence (P := PG) (w := w) (mg := mg) (base := base) (c := cs K) T  (toFun F_is_sequence), glo_ok X G (sd.fact 44 (f := .glo "is_sequence") rfl), F_is_sequence.kp, (F_is_sequence.bindsN fun _ _ _ _ _ _ us hl => match us, hl with | [_], _ => rfl)⟩
  have D_rising_rows : Dn PG w K mg base CX0 1 "rising_rows" ["many", "size"] (sp_rising_rows (cs K)) := ⟨_, fd_rising_rows, ok_rising_rows (P := PG) (w := w) (mg := mg) (base := base) (c := cs K) T  (toFun F_rising_rows), glo_ok X G (sd.fact 45 (f := .glo "rising_rows") rfl), F_rising_rows.kp, (F_rising_rows.bindsN fun _ _ _ _ _ _ us hl => match us, hl with | [_, _], _ => rfl)⟩
  have D_without : Dn PG w K mg base CX0 1 "without" ["lot", "thing"] (sp_without (cs K)) := ⟨_, fd_without, ok_without (P := PG) (w := w) (mg := mg) (base := base) (c := cs K) T  (toFun F_without), glo_ok X G (sd.fact 46 (f := .glo "without") rfl), F_without.kp, (F_without.bindsN fun _ _ _ _ _ _ us hl => match us, hl with | [_, _], _ => rfl)⟩
  have D_need_sizes : Dn PG w K mg base CX0 3 "need_sizes" ["many", "places"] (sp_need_sizes (cs K)) := ⟨_, fd_need_sizes, ok_need_sizes (P := PG) (w := w) (mg := mg) (base := base) (c := cs K) T D_is_number (toFun F_need_sizes), glo_ok X G (sd.fact 47 (f := .glo "need_sizes") rfl), F_need_sizes.kp, (F_need_sizes.bindsN fun _ _ _ _ _ _ us hl => match us, hl with | [_, _], _ => rfl)⟩
  have D_Book : Dk PG w K mg base CX0 4 (cs K).CB "Book" ["self", "many", "places", "goers"] ["many", "places", "goers"] (sp_Book (cs K)) := ⟨_, fd_Book, ok_Book (P := PG) (w := w) (mg := mg) (base := base) (c := cs K) T D_is_below D_is_sequence D_need_sizes D_rising_rows (toFun F_Book), mkr_ok (sd.fact 48 (f := .mkr "Book") rfl), glo_ok X G (sd.fact 15 (f := .glo "Book") rfl), (F_Book.bindsN fun _ _ _ _ _ _ us hl => match us, hl with | [_, _, _, _], _ => rfl), (toK F_Book (ks := ["many", "places", "goers"]) fun _ _ _ _ _ _ us ws l1 l2 => match us, ws, l1, l2 with | [_], [_, _, _], _, _ => rfl)⟩
  have D_need_book : Dn PG w K mg base CX0 1 "need_book" ["value"] (sp_need_book (cs K)) := ⟨_, fd_need_book, ok_need_book (P := PG) (w := w) (mg := mg) (base := base) (c := cs K) T  (toFun F_need_book), glo_ok X G (sd.fact 49 (f := .glo "need_book") rfl), F_need_book.kp, (F_need_book.bindsN fun _ _ _ _ _ _ us hl => match us, hl with | [_], _ => rfl)⟩
  have D_come_along : Dn PG w K mg base CX0 2 "come_along" ["book", "stays", "row"] (sp_come_along (cs K)) := ⟨_, fd_come_along, ok_come_along (P := PG) (w := w) (mg := mg) (base := base) (c := cs K) T D_without (toFun F_come_along), glo_ok X G (sd.fact 50 (f := .glo "come_along") rfl), F_come_along.kp, (F_come_along.bindsN fun _ _ _ _ _ _ us hl => match us, hl with | [_, _, _], _ => rfl)⟩
  have D_goer_without : Dn PG w K mg base CX0 2 "goer_without" ["book", "lot", "thing"] (sp_goer_without (cs K)) := ⟨_, fd_goer_without, ok_goer_without (P := PG) (w := w) (mg := mg) (base := base) (c := cs K) T D_without (toFun F_goer_without), glo_ok X G (sd.fact 51 (f := .glo "goer_without") rfl), F_goer_without.kp, (F_goer_without.bindsN fun _ _ _ _ _ _ us hl => match us, hl with | [_, _, _], _ => rfl)⟩
  have D_goers_of : Dn PG w K mg base CX0 3 "goers_of" ["book", "lot"] (sp_goers_of (cs K)) := ⟨_, fd_goers_of, ok_goers_of (P := PG) (w := w) (mg := mg) (base := base) (c := cs K) T D_goer_without (toFun F_goers_of), glo_ok X G (sd.fact 52 (f := .glo "goers_of") rfl), F_goers_of.kp, (F_goers_of.bindsN fun _ _ _ _ _ _ us hl => match us, hl with | [_, _], _ => rfl)⟩
  have D_wide_lots : Dn PG w K mg base CX0 2 "wide_lots" ["book"] (sp_wide_lots (cs K)) := ⟨_, fd_wide_lots, ok_wide_lots (P := PG) (w := w) (mg := mg) (base := base) (c := cs K) T D_rising_rows (toFun F_wide_lots), glo_ok X G (sd.fact 53 (f := .glo "wide_lots") rfl), F_wide_lots.kp, (F_wide_lots.bindsN fun _ _ _ _ _ _ us hl => match us, hl with | [_], _ => rfl)⟩
  have D_bad_lots : Dn PG w K mg base CX0 4 "bad_lots" ["book"] (sp_bad_lots (cs K)) := ⟨_, fd_bad_lots, ok_bad_lots (P := PG) (w := w) (mg := mg) (base := base) (c := cs K) T D_goers_of D_need_book D_wide_lots (toFun F_bad_lots), glo_ok X G (sd.fact 54 (f := .glo "bad_lots") rfl), F_bad_lots.kp, (F_bad_lots.bindsN fun _ _ _ _ _ _ us hl => match us, hl with | [_], _ => rfl)⟩
  have D_is_steady : Dn PG w K mg base CX0 5 "is_steady" ["book"] (sp_is_steady (cs K)) := ⟨_, fd_is_steady, ok_is_steady (P := PG) (w := w) (mg := mg) (base := base) (c := cs K) T D_bad_lots (toFun F_is_steady), glo_ok X G (sd.fact 55 (f := .glo "is_steady") rfl), F_is_steady.kp, (F_is_steady.bindsN fun _ _ _ _ _ _ us hl => match us, hl with | [_], _ => rfl)⟩
  have D_need_steady : Dn PG w K mg base (L2.CX PG w) 6 "need_steady" ["value"] (sp_need_steady (cs K)) := ⟨_, fd_need_steady, ok_need_steady (P := PG) (w := w) (mg := mg) (base := base) (c := cs K) T D_is_steady (toFun F_need_steady), glo_ok X G (sd.fact 56 (f := .glo "need_steady") rfl), F_need_steady.kp, (F_need_steady.bindsN fun _ _ _ _ _ _ us hl => match us, hl with | [_], _ => rfl)⟩
  have D_need_house_books : Dn PG w K mg base (L2.CX PG w) 2 "need_house_books" ["value"] (sp_need_house_books (cs K)) := ⟨_, fd_need_house_books, ok_need_house_books (P := PG) (w := w) (mg := mg) (base := base) (c := cs K) T D_is_sequence (toFun F_need_house_books), glo_ok X G (sd.fact 57 (f := .glo "need_house_books") rfl), F_need_house_books.kp, (F_need_house_books.bindsN fun _ _ _ _ _ _ us hl => match us, hl with | [_], _ => rfl)⟩
  have D_need_steady_books : Dn PG w K mg base (L2.CX PG w) 7 "need_steady_books" ["books"] (sp_need_steady_books (cs K)) := ⟨_, fd_need_steady_books, ok_need_steady_books (P := PG) (w := w) (mg := mg) (base := base) (c := cs K) T D_need_steady (toFun F_need_steady_books), glo_ok X G (sd.fact 58 (f := .glo "need_steady_books") rfl), F_need_steady_books.kp, (F_need_steady_books.bindsN fun _ _ _ _ _ _ us hl => match us, hl with | [_], _ => rfl)⟩
  have D_kept_by : Dn PG w K mg base CX0 3 "kept_by" ["books", "lot"] (sp_kept_by (cs K)) := ⟨_, fd_kept_by, ok_kept_by (P := PG) (w := w) (mg := mg) (base := base) (c := cs K) T D_come_along (toFun F_kept_by), glo_ok X G (sd.fact 59 (f := .glo "kept_by") rfl), F_kept_by.kp, (F_kept_by.bindsN fun _ _ _ _ _ _ us hl => match us, hl with | [_, _], _ => rfl)⟩
  have D_need_roads : Dn PG w K mg base (L2.CX PG w) 4 "need_roads" ["value", "hands"] (sp_need_roads (cs K)) := ⟨_, fd_need_roads, ok_need_roads (P := PG) (w := w) (mg := mg) (base := base) (c := cs K) T D_is_below D_is_sequence (toFun F_need_roads), glo_ok X G (sd.fact 60 (f := .glo "need_roads") rfl), F_need_roads.kp, (F_need_roads.bindsN fun _ _ _ _ _ _ us hl => match us, hl with | [_, _], _ => rfl)⟩
  have D_reached_from : Dn PG w K mg base CX0 1 "reached_from" ["roads", "hand"] (sp_reached_from (cs K)) := ⟨_, fd_reached_from, ok_reached_from (P := PG) (w := w) (mg := mg) (base := base) (c := cs K) T  (toFun F_reached_from), glo_ok X G (sd.fact 61 (f := .glo "reached_from") rfl), F_reached_from.kp, (F_reached_from.bindsN fun _ _ _ _ _ _ us hl => match us, hl with | [_, _], _ => rfl)⟩
  have D_wanted_books : Dn PG w K mg base CX0 2 "wanted_books" ["books", "roads", "hand"] (sp_wanted_books (cs K)) := ⟨_, fd_wanted_books, ok_wanted_books (P := PG) (w := w) (mg := mg) (base := base) (c := cs K) T D_reached_from (toFun F_wanted_books), glo_ok X G (sd.fact 62 (f := .glo "wanted_books") rfl), F_wanted_books.kp, (F_wanted_books.bindsN fun _ _ _ _ _ _ us hl => match us, hl with | [_, _, _], _ => rfl)⟩
  have D_Live : Dk PG w K mg base (L2.CX PG w) 8 (cs K).CL "Live" ["self", "books", "roads"] ["books", "roads"] (sp_Live (cs K)) := ⟨_, fd_Live, ok_Live (P := PG) (w := w) (mg := mg) (base := base) (c := cs K) T D_need_house_books D_need_roads D_need_steady_books (toFun F_Live), mkr_ok (sd.fact 63 (f := .mkr "Live") rfl), glo_ok X G (sd.fact 16 (f := .glo "Live") rfl), (F_Live.bindsN fun _ _ _ _ _ _ us hl => match us, hl with | [_, _, _], _ => rfl), (toK F_Live (ks := ["books", "roads"]) fun _ _ _ _ _ _ us ws l1 l2 => match us, ws, l1, l2 with | [_], [_, _], _, _ => rfl)⟩
  have D_Live_need_hand : Dm PG w K mg base (L2.CX PG w) 4 (cs K).CL "need_hand" ["self", "value", "word"] ["value", "word"] (sp_Live_need_hand (cs K)) := ⟨_, fd_Live_need_hand, ok_Live_need_hand (P := PG) (w := w) (mg := mg) (base := base) (c := cs K) T D_is_below (toFun F_Live_need_hand), meth_ok (sd.fact 64 (f := .meth "Live" "need_hand") rfl), (F_Live_need_hand.bindsN fun _ _ _ _ _ _ us hl => match us, hl with | [_, _, _], _ => rfl), (toK F_Live_need_hand (ks := ["value", "word"]) fun _ _ _ _ _ _ us ws l1 l2 => match us, ws, l1, l2 with | [_], [_, _], _, _ => rfl)⟩
  have D_Live_need_two_hands : Dm PG w K mg base (L2.CX PG w) 5 (cs K).CL "need_two_hands" ["self", "hand", "to"] ["hand", "to"] (sp_Live_need_two_hands (cs K)) := ⟨_, fd_Live_need_two_hands, ok_Live_need_two_hands (P := PG) (w := w) (mg := mg) (base := base) (c := cs K) T D_Live_need_hand (toFun F_Live_need_two_hands), meth_ok (sd.fact 65 (f := .meth "Live" "need_two_hands") rfl), (F_Live_need_two_hands.bindsN fun _ _ _ _ _ _ us hl => match us, hl with | [_, _, _], _ => rfl), (toK F_Live_need_two_hands (ks := ["hand", "to"]) fun _ _ _ _ _ _ us ws l1 l2 => match us, ws, l1, l2 with | [_], [_, _], _, _ => rfl)⟩
  have D_Live_list_of : Dm PG w K mg base (L2.CX PG w) 5 (cs K).CL "list_of" ["self", "hand"] ["hand"] (sp_Live_list_of (cs K)) := ⟨_, fd_Live_list_of, ok_Live_list_of (P := PG) (w := w) (mg := mg) (base := base) (c := cs K) T D_Live_need_hand D_come_along (toFun F_Live_list_of), meth_ok (sd.fact 66 (f := .meth "Live" "list_of") rfl), (F_Live_list_of.bindsN fun _ _ _ _ _ _ us hl => match us, hl with | [_, _], _ => rfl), (toK F_Live_list_of (ks := ["hand"]) fun _ _ _ _ _ _ us ws l1 l2 => match us, ws, l1, l2 with | [_], [_], _, _ => rfl)⟩
  have D_Live_settle : Dm PG w K mg base CX0 4 (cs K).CL "settle" ["self", "books", "roads", "had"] ["books", "roads", "had"] (sp_Live_settle (cs K)) := ⟨_, fd_Live_settle, ok_Live_settle (P := PG) (w := w) (mg := mg) (base := base) (c := cs K) T D_kept_by D_wanted_books (toFun F_Live_settle), meth_ok (sd.fact 67 (f := .meth "Live" "settle") rfl), (F_Live_settle.bindsN fun _ _ _ _ _ _ us hl => match us, hl with | [_, _, _, _], _ => rfl), (toK F_Live_settle (ks := ["books", "roads", "had"]) fun _ _ _ _ _ _ us ws l1 l2 => match us, ws, l1, l2 with | [_], [_, _, _], _, _ => rfl)⟩
  have D_Live_hear : Dm PG w K mg base CX0 5 (cs K).CL "hear" ["self", "hand", "lot"] ["hand", "lot"] (sp_Live_hear (cs K)) := ⟨_, fd_Live_hear, ok_Live_hear (P := PG) (w := w) (mg := mg) (base := base) (c := cs K) T D_Live_settle (toFun F_Live_hear), meth_ok (sd.fact 68 (f := .meth "Live" "hear") rfl), (F_Live_hear.bindsN fun _ _ _ _ _ _ us hl => match us, hl with | [_, _, _], _ => rfl), (toK F_Live_hear (ks := ["hand", "lot"]) fun _ _ _ _ _ _ us ws l1 l2 => match us, ws, l1, l2 with | [_], [_, _], _, _ => rfl)⟩
  have D_Live_come : Dm PG w K mg base (L2.CX PG w) 6 (cs K).CL "come" ["self", "hand", "thing"] ["hand", "thing"] (sp_Live_come (cs K)) := ⟨_, fd_Live_come, ok_Live_come (P := PG) (w := w) (mg := mg) (base := base) (c := cs K) T D_Live_hear D_Live_need_hand D_is_below (toFun F_Live_come), meth_ok (sd.fact 69 (f := .meth "Live" "come") rfl), (F_Live_come.bindsN fun _ _ _ _ _ _ us hl => match us, hl with | [_, _, _], _ => rfl), (toK F_Live_come (ks := ["hand", "thing"]) fun _ _ _ _ _ _ us ws l1 l2 => match us, ws, l1, l2 with | [_], [_, _], _, _ => rfl)⟩
  have D_Live_send : Dm PG w K mg base (L2.CX PG w) 6 (cs K).CL "send" ["self", "hand", "to"] ["hand", "to"] (sp_Live_send (cs K)) := ⟨_, fd_Live_send, ok_Live_send (P := PG) (w := w) (mg := mg) (base := base) (c := cs K) T D_Live_hear D_Live_need_two_hands (toFun F_Live_send), meth_ok (sd.fact 70 (f := .meth "Live" "send") rfl), (F_Live_send.bindsN fun _ _ _ _ _ _ us hl => match us, hl with | [_, _, _], _ => rfl), (toK F_Live_send (ks := ["hand", "to"]) fun _ _ _ _ _ _ us ws l1 l2 => match us, ws, l1, l2 with | [_], [_, _], _, _ => rfl)⟩
  have D_Live_undo_deed : Dm PG w K mg base CX0 1 (cs K).CL "undo_deed" ["self"] [] (sp_Live_undo_deed (cs K)) := ⟨_, fd_Live_undo_deed, ok_Live_undo_deed (P := PG) (w := w) (mg := mg) (base := base) (c := cs K) T  (toFun F_Live_undo_deed), meth_ok (sd.fact 71 (f := .meth "Live" "undo_deed") rfl), (F_Live_undo_deed.bindsN fun _ _ _ _ _ _ us hl => match us, hl with | [_], _ => rfl), (toK F_Live_undo_deed (ks := []) fun _ _ _ _ _ _ us ws l1 l2 => match us, ws, l1, l2 with | [_], [], _, _ => rfl)⟩
  have D_Live_redo_deed : Dm PG w K mg base CX0 1 (cs K).CL "redo_deed" ["self"] [] (sp_Live_redo_deed (cs K)) := ⟨_, fd_Live_redo_deed, ok_Live_redo_deed (P := PG) (w := w) (mg := mg) (base := base) (c := cs K) T  (toFun F_Live_redo_deed), meth_ok (sd.fact 72 (f := .meth "Live" "redo_deed") rfl), (F_Live_redo_deed.bindsN fun _ _ _ _ _ _ us hl => match us, hl with | [_], _ => rfl), (toK F_Live_redo_deed (ks := []) fun _ _ _ _ _ _ us ws l1 l2 => match us, ws, l1, l2 with | [_], [], _, _ => rfl)⟩
  have D__law_draw : Dn PG w K mg base CX0 1 "_law_draw" ["_law_script", "_law_salt"] (sp__law_draw K (cs K)) := ⟨_, fd__law_draw, ok__law_draw (P := PG) (w := w) (mg := mg) (base := base) (c := cs K) T  (toFun F__law_draw), glo_ok X G (sd.fact 73 (f := .glo "_law_draw") rfl), F__law_draw.kp, (F__law_draw.bindsN fun _ _ _ _ _ _ us hl => match us, hl with | [_, _], _ => rfl)⟩
  have D__law_any : Dn PG w K mg base CX0 1 "_law_any" ["_law_deal", "_law_bound"] (sp__law_any (cs K)) := ⟨_, fd__law_any, ok__law_any (P := PG) (w := w) (mg := mg) (base := base) (c := cs K) T  (toFun F__law_any), glo_ok X G (sd.fact 74 (f := .glo "_law_any") rfl), F__law_any.kp, (F__law_any.bindsN fun _ _ _ _ _ _ us hl => match us, hl with | [_, _], _ => rfl)⟩
  have D__law_of : Dn PG w K mg base CX0 2 "_law_of" ["_law_deal", "_law_some"] (sp__law_of (cs K)) := ⟨_, fd__law_of, ok__law_of (P := PG) (w := w) (mg := mg) (base := base) (c := cs K) T D__law_any (toFun F__law_of), glo_ok X G (sd.fact 75 (f := .glo "_law_of") rfl), F__law_of.kp, (F__law_of.bindsN fun _ _ _ _ _ _ us hl => match us, hl with | [_, _], _ => rfl)⟩
  have D__law_order : Dn PG w K mg base CX0 2 "_law_order" ["_law_deal", "_law_many"] (sp__law_order (cs K)) := ⟨_, fd__law_order, ok__law_order (P := PG) (w := w) (mg := mg) (base := base) (c := cs K) T D__law_any (toFun F__law_order), glo_ok X G (sd.fact 76 (f := .glo "_law_order") rfl), F__law_order.kp, (F__law_order.bindsN fun _ _ _ _ _ _ us hl => match us, hl with | [_, _], _ => rfl)⟩
  have D__law_rows : Dn PG w K mg base CX0 1 "_law_rows" ["_law_many", "_law_size"] (sp__law_rows (cs K)) := ⟨_, fd__law_rows, ok__law_rows (P := PG) (w := w) (mg := mg) (base := base) (c := cs K) T  (toFun F__law_rows), glo_ok X G (sd.fact 77 (f := .glo "_law_rows") rfl), F__law_rows.kp, (F__law_rows.bindsN fun _ _ _ _ _ _ us hl => match us, hl with | [_, _], _ => rfl)⟩
  have D__law_less : Dn PG w K mg base CX0 1 "_law_less" ["_law_lot", "_law_thing"] (sp__law_less (cs K)) := ⟨_, fd__law_less, ok__law_less (P := PG) (w := w) (mg := mg) (base := base) (c := cs K) T  (toFun F__law_less), glo_ok X G (sd.fact 78 (f := .glo "_law_less") rfl), F__law_less.kp, (F__law_less.bindsN fun _ _ _ _ _ _ us hl => match us, hl with | [_, _], _ => rfl)⟩
  have D__law_taken : Dn PG w K mg base CX0 1 "_law_taken" ["_law_tastes", "_law_lot"] (sp__law_taken (cs K)) := ⟨_, fd__law_taken, ok__law_taken (P := PG) (w := w) (mg := mg) (base := base) (c := cs K) T  (toFun F__law_taken), glo_ok X G (sd.fact 79 (f := .glo "_law_taken") rfl), F__law_taken.kp, (F__law_taken.bindsN fun _ _ _ _ _ _ us hl => match us, hl with | [_, _], _ => rfl)⟩
  have D__law_calm : Dn PG w K mg base CX0 2 "_law_calm" ["_law_table_here", "_law_lot", "_law_many"] (sp__law_calm (cs K)) := ⟨_, fd__law_calm, ok__law_calm (P := PG) (w := w) (mg := mg) (base := base) (c := cs K) T D__law_less (toFun F__law_calm), glo_ok X G (sd.fact 80 (f := .glo "_law_calm") rfl), F__law_calm.kp, (F__law_calm.bindsN fun _ _ _ _ _ _ us hl => match us, hl with | [_, _, _], _ => rfl)⟩
  have D__law_table : Dn PG w K mg base CX0 3 "_law_table" ["_law_deal", "_law_tastes", "_law_many", "_law_turns"] (sp__law_table (cs K)) := ⟨_, fd__law_table, ok__law_table (P := PG) (w := w) (mg := mg) (base := base) (c := cs K) T D__law_calm D__law_less D__law_of D__law_rows D__law_taken (toFun F__law_table), glo_ok X G (sd.fact 81 (f := .glo "_law_table") rfl), F__law_table.kp, (F__law_table.bindsN fun _ _ _ _ _ _ us hl => match us, hl with | [_, _, _, _], _ => rfl)⟩
  have D__law_list : Dn PG w K mg base CX0 2 "_law_list" ["_law_table_here", "_law_places", "_law_lot"] (sp__law_list (cs K)) := ⟨_, fd__law_list, ok__law_list (P := PG) (w := w) (mg := mg) (base := base) (c := cs K) T D__law_less (toFun F__law_list), glo_ok X G (sd.fact 82 (f := .glo "_law_list") rfl), F__law_list.kp, (F__law_list.bindsN fun _ _ _ _ _ _ us hl => match us, hl with | [_, _, _], _ => rfl)⟩
  have D__law_truth : Dn PG w K mg base CX0 1 "_law_truth" ["_law_value", "_law_due"] (sp__law_truth (cs K)) := ⟨_, fd__law_truth, ok__law_truth (P := PG) (w := w) (mg := mg) (base := base) (c := cs K) T  (toFun F__law_truth), glo_ok X G (sd.fact 83 (f := .glo "_law_truth") rfl), F__law_truth.kp, (F__law_truth.bindsN fun _ _ _ _ _ _ us hl => match us, hl with | [_, _], _ => rfl)⟩
  have D__law_house : Dn PG w K mg base CX0 4 "_law_house" ["_law_deal", "_law_many"] (sp__law_house (cs K)) := ⟨_, fd__law_house, ok__law_house (P := PG) (w := w) (mg := mg) (base := base) (c := cs K) T D__law_any D__law_of D__law_order D__law_table (toFun F__law_house), glo_ok X G (sd.fact 84 (f := .glo "_law_house") rfl), F__law_house.kp, (F__law_house.bindsN fun _ _ _ _ _ _ us hl => match us, hl with | [_, _], _ => rfl)⟩
  have D__law_reach : Dn PG w K mg base CX0 1 "_law_reach" ["_law_roads", "_law_hand"] (sp__law_reach (cs K)) := ⟨_, fd__law_reach, ok__law_reach (P := PG) (w := w) (mg := mg) (base := base) (c := cs K) T  (toFun F__law_reach), glo_ok X G (sd.fact 85 (f := .glo "_law_reach") rfl), F__law_reach.kp, (F__law_reach.bindsN fun _ _ _ _ _ _ us hl => match us, hl with | [_, _], _ => rfl)⟩
  have D__law_kept : Dn PG w K mg base CX0 3 "_law_kept" ["_law_house_here", "_law_roads", "_law_hand", "_law_heard"] (sp__law_kept (cs K)) := ⟨_, fd__law_kept, ok__law_kept (P := PG) (w := w) (mg := mg) (base := base) (c := cs K) T D__law_list D__law_reach (toFun F__law_kept), glo_ok X G (sd.fact 86 (f := .glo "_law_kept") rfl), F__law_kept.kp, (F__law_kept.bindsN fun _ _ _ _ _ _ us hl => match us, hl with | [_, _, _, _], _ => rfl)⟩
  have D__law_wrong : Dn PG w K mg base CX0 6 "_law_wrong" ["_law_live", "_law_house_here", "_law_roads", "_law_heard"] (sp__law_wrong (cs K)) := ⟨_, fd__law_wrong, ok__law_wrong (P := PG) (w := w) (mg := mg) (base := base) (c := cs K) T D_Live_list_of D__law_kept D__law_list (toFun F__law_wrong), glo_ok X G (sd.fact 87 (f := .glo "_law_wrong") rfl), F__law_wrong.kp, (F__law_wrong.bindsN fun _ _ _ _ _ _ us hl => match us, hl with | [_, _, _, _], _ => rfl)⟩
  have D__law_refused : Dn PG w K mg base CX0 7 "_law_refused" ["_law_live", "_law_word", "_law_values"] (sp__law_refused (cs K)) := ⟨_, fd__law_refused, ok__law_refused (P := PG) (w := w) (mg := mg) (base := base) (c := cs K) T D_Live_come D_Live_list_of D_Live_send (toFun F__law_refused), glo_ok X G (sd.fact 88 (f := .glo "_law_refused") rfl), F__law_refused.kp, (F__law_refused.bindsN fun _ _ _ _ _ _ us hl => match us, hl with | [_, _, _], _ => rfl)⟩
  have D__law_bad : Dn PG w K mg base CX0 3 "_law_bad" ["_law_deal", "_law_many", "_law_hands", "_law_roads"] (sp__law_bad (cs K)) := ⟨_, fd__law_bad, ok__law_bad (P := PG) (w := w) (mg := mg) (base := base) (c := cs K) T D__law_any D__law_of (toFun F__law_bad), glo_ok X G (sd.fact 89 (f := .glo "_law_bad") rfl), F__law_bad.kp, (F__law_bad.bindsN fun _ _ _ _ _ _ us hl => match us, hl with | [_, _, _, _], _ => rfl)⟩
  have D__law_deeds : Dn PG w K mg base CX0 8 "_law_deeds" ["_law_deal", "_law_live", "_law_house_here", "_law_roads", "_law_many"] (sp__law_deeds (cs K)) := ⟨_, fd__law_deeds, ok__law_deeds (P := PG) (w := w) (mg := mg) (base := base) (c := cs K) T D_Live_come D_Live_redo_deed D_Live_send D_Live_undo_deed D__law_any D__law_bad D__law_kept D__law_of D__law_refused D__law_truth D__law_wrong (toFun F__law_deeds), glo_ok X G (sd.fact 90 (f := .glo "_law_deeds") rfl), F__law_deeds.kp, (F__law_deeds.bindsN fun _ _ _ _ _ _ us hl => match us, hl with | [_, _, _, _, _], _ => rfl)⟩
  have D__law_alone : Dn PG w K mg base CX0 10 "_law_alone" ["_law_house_here", "_law_books", "_law_roads", "_law_hand", "_law_lot"] (sp__law_alone (cs K)) := ⟨_, fd__law_alone, ok__law_alone (P := PG) (w := w) (mg := mg) (base := base) (c := cs K) T D_Live D_Live_come D_Live_list_of D_Live_send D__law_kept D__law_list D__law_reach (toFun F__law_alone), glo_ok X G (sd.fact 91 (f := .glo "_law_alone") rfl), F__law_alone.kp, (F__law_alone.bindsN fun _ _ _ _ _ _ us hl => match us, hl with | [_, _, _, _, _], _ => rfl)⟩
  have D__law_built : Dn PG w K mg base CX0 10 "_law_built" ["_law_books", "_law_roads"] (sp__law_built (cs K)) := ⟨_, fd__law_built, ok__law_built (P := PG) (w := w) (mg := mg) (base := base) (c := cs K) T D_Live (toFun F__law_built), glo_ok X G (sd.fact 92 (f := .glo "_law_built") rfl), F__law_built.kp, (F__law_built.bindsN fun _ _ _ _ _ _ us hl => match us, hl with | [_, _], _ => rfl)⟩
  have D__law_refusals : Dn PG w K mg base CX0 11 "_law_refusals" ["_law_deal", "_law_books", "_law_roads", "_law_many"] (sp__law_refusals (cs K)) := ⟨_, fd__law_refusals, ok__law_refusals (P := PG) (w := w) (mg := mg) (base := base) (c := cs K) T D_Book D__law_any D__law_built D__law_of D__law_rows (toFun F__law_refusals), glo_ok X G (sd.fact 93 (f := .glo "_law_refusals") rfl), F__law_refusals.kp, (F__law_refusals.bindsN fun _ _ _ _ _ _ us hl => match us, hl with | [_, _, _, _], _ => rfl)⟩
  exact ok_law (P := PG) (w := w) (mg := mg) (base := base) (c := cs K) T D_Book D_Live D_Live_redo_deed D_Live_undo_deed D__law_alone D__law_any D__law_deeds D__law_draw D__law_house D__law_of D__law_refusals D__law_refused D__law_rows (toFun F_law)
end Ws
end
section
set_option Elab.async false
set_option linter.all false
set_option maxRecDepth 100000
set_option maxHeartbeats 0
/-! K54: the head, the end. -/
namespace Ws
open PySem PySem.W PySem.Calls PyProof.Rows
abbrev qv : Program := view RW.prog [59]
def n1 : List PySem.Str := ["_wall", "__name__", "StayError", "InvalidBook", "InvalidRoads", "NotSteady", "Refused", "InvalidSize", "is_integer", "is_number", "is_below", "is_sequence", "rising_rows", "without", "MOST_THINGS", "need_sizes", "Book", "need_book", "come_along", "goer_without", "goers_of", "wide_lots", "bad_lots", "is_steady", "need_steady", "MOST_BOOKS", "need_house_books", "need_steady_books", "kept_by", "need_roads"]
def n2 : List PySem.Str := ["reached_from", "wanted_books", "Live", "_law_draw", "_law_any", "_law_of", "_law_order", "_law_rows", "_law_less", "_law_taken", "_law_calm", "_law_table", "_law_list", "_law_truth", "_law_house", "_law_reach", "_law_kept", "_law_wrong", "_law_refused", "_law_bad", "_law_deeds", "_law_alone", "_law_built", "_law_refusals"]
def names : List PySem.Str := n1 ++ n2
theorem run (w : World) : HandSHeadRun.RunEq RW qv (hookY 5) obY 4000 names w := by
  intro os
  kernel_rfl
end Ws
end
section
set_option Elab.async false
set_option linter.all false
set_option maxRecDepth 100000
set_option maxHeartbeats 0
open PySem PySem.W PySem.Calls PyProof.Rows
theorem PySem.Challenge.cw_whichstay_k54_whole_lists_right_in_house_holds : PySem.Challenge.rw_whichstay_k54_whole_lists_right_in_house.Holds := by
  w_on; o_law
  refine HandSHeadRun.head_any (r := Ws.RW) (q := Ws.qv) (H := Ws.hookY 5) (ob := Ws.obY) (M := 4000) (loose := Ws.names) (d := HandSHeadRun.topDef Ws.RW.prog 59) (kwd := []) Ws.obY_eq
    (by kernel_rfl) (fun s => by kernel_rfl) Ws.run (by kernel_rfl) (by kernel_rfl) (by kernel_rfl) (by rfl) (by first | assumption | decide +kernel) (by decide +kernel) ⟨rfl, rfl, rfl, rfl, rfl, by decide +kernel⟩ ?hw ?hc
  case hw => w_witness2
  case hc =>
    refine L2.walk_ofE (l := PySem.Challenge.rw_whichstay_k54_whole_lists_right_in_house) (n := 63) (k := 12) (x := "_law_script") (CX := L2.CX0) rfl (by decide) (by kernel_rfl) ⟨rfl, by decide, by decide⟩ ?F (fun _ _ _ _ z => z)
    intro w mg fa h Y G hmg0
    obtain ⟨K, KX, c⟩ := Y
    have hmg : mg ("law" : PySem.Str) = some (.ref fa) := by
      have e : (HandSHeadRun.topDef Ws.RW.prog 59).name = ("law" : PySem.Str) := by kernel_rfl
      rw [← e]
      exact hmg0
    obtain ⟨fd, hb, hF⟩ := Ws.facts (w := w) KX G hmg c
    exact ⟨K, fd, Ws.sp_law K (Ws.cs K), KX, hb, fun H a ns hl _ hS => ⟨a, ns, rfl, hS, hl, fun _ => rfl⟩, hF⟩
end
