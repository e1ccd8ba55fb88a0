import PyProof.Rows.All
import Wide.All
import OpenK.AllK
import Wide.FinOn
import HandS.ForMost
import HandS.Zip
import KE.GoesEnum
import KE.KDictZip
import HandS.Style
import HandS.IsInst
import HandS.TupAny
import HandS.Star
import HandS.Deep
import HandS.DictComp
import HandS.LawCells
import HandS.More
import HandS.EndTab
import HandS.Lambda
import PyProof.ReprRoads
import PyProof.CallFns
import PyProof.EqAt
import PyProof.EqKinds
import PyProof.TupleCall
import HandS.Base
import HandS.Call
import HandS.Exc
import HandS.ExcField
import HandS.TryMany
import HandS.WordsExc
import HandS.ExcInit
import HandS.Conv
import HandS.ListItems
import HandS.CallLocal
import PySem.Challenge.RW_eithershown_k23_whole_places
set_option Elab.async false
-- text: XRules
set_option Elab.async false
set_option linter.all false
set_option maxRecDepth 100000
/-! rules of our own: enumerate over a tuple and over a dict that stands still, zip of two tuples to one name -/
namespace XR
open PySem PySem.Spec PyProof.Rows L2

/-! ### enumerate(tuple) -/
def IteT (K : PySem.W.Frag) (a : Addr) : It :=
  ⟨fun i H => ∃ (xs : List V) (x : V), SqT K H a xs ∧ xs[i]? = some x, fun i H v H' => ∃ T x, v = .ref T ∧ H T = none ∧ H' = upd H T (.tup [.int (i : Nat), x]) ∧ ∀ xs, SqT K H a xs → xs[i]? = some x, fun i H => ∃ xs : List V, SqT K H a xs ∧ xs.length ≤ i⟩
theorem turn_enumT {P : Program} {w : World} {K : PySem.W.Frag} {elts : List Expr} {kk : Nat} {tpos : Pos} (a e it : Addr) (hae : a ≠ e) (hai : a ≠ it) :
    Turn P w K (.Tuple elts kk tpos) (IteT K a) [e, it] e (fun i h => (∃ old, IsEnum h e it ((i : Nat) : Int) old) ∧ h.IsTupleIter it a i ∧ e ≠ it) where
  mem := by simp
  obj := fun i h st b hb => by
    obtain ⟨⟨old, he⟩, ⟨o, ho, hc, hd⟩, _⟩ := st
    have e' : b = e ∨ b = it := by simpa using hb
    rcases e' with z | z
    · rw [z]; exact ⟨_, he, fun v q => nomatch q⟩
    · rw [z]; exact ⟨o, ho, fun v q => by rw [hd] at q; cases q⟩
  keep := fun i h h' st k => let ⟨⟨old, he⟩, hi, hne⟩ := st; ⟨⟨old, k e (by simp) _ he⟩, hi.at fun o q => k it (by simp) o q, hne⟩
  item := by
    intro X hP hw hK hc i pins s σ H E I hf st hg
    subst hP hw hK
    obtain ⟨⟨old, he⟩, hit, hne⟩ := st
    obtain ⟨xs, x, hq, hx⟩ := hg
    obtain ⟨its, rv, p, hz⟩ := I.tuple hq
    obtain ⟨u, hu, ru⟩ := rv.get hx
    have hel : e < s.heap.objs.size := Heap.lt_size he
    have hil : it < s.heap.objs.size := by obtain ⟨_, q, _⟩ := hit; exact Heap.lt_size q
    have hlt : i < its.toArray.size := by
      have := (List.getElem?_eq_some_iff.mp hu).1
      simpa using this
    have D := Draws.tuple (prog := X.prog) (w := X.w) (A := X.A.in1) (show X.A.in1.handled = none from I.ok.hd hc) it a hai its.toArray
    have hef : e ∉ [it, a] := fun q => by
      have q' : e = it ∨ e = a := by simpa using q
      rcases q' with q' | q'
      · exact hne q'
      · exact hae q'.symm
    refine wpAny_pyNext_enum_itemC D he ⟨hit, show s.heap.IsTuple a its.toArray from p⟩ hlt hne hef fun x' h' tk hP ho hst hT hsz hk => ?_
    obtain rfl : x' = u := by
      rw [show its.toArray[i]? = its[i]? from by simp, hu] at hP
      exact (Option.some.inj hP).symm
    refine ⟨_, rfl, wpAny_letOwnedTupleGo_enum (s := { s with heap := h', toks := tk + 1 }) ho fun h'' he' sb => ?_⟩
    have hT2 : h''.get? s.heap.objs.size = some { cls := .type "tuple", data := .seq #[.int i tk, x'] } := (sb.2 _ (Nat.ne_of_gt hel)).trans hT
    have new : ObjOk X.prog X.w (upd H s.heap.objs.size (.tup [.int (i : Nat), x])) h'' s.heap.objs.size (.tup [.int (i : Nat), x]) :=
      ⟨by show 2 ≤ sizeLine; decide, [.int i tk, x'], .cons ⟨_, rfl⟩ (.cons ru .nil), ⟨_, hT2, rfl, _, rfl⟩⟩
    have I1 : Inv X pins σ (upd H s.heap.objs.size (.tup [.int (i : Nat), x])) { s with heap := h'', toks := tk + 1 } :=
      I.turnedNew (ch := [e, it]) (fun b ob hb q => (sb.2 b (fun z => hb (by simp [z]))).trans (hk b ob (fun z => hb (by simp [z])) (fun z => hb (by simp [z])) q)) hf (Nat.le_refl _) new
    refine ⟨.ref s.heap.objs.size, _, I1, rfl, ⟨_, x, rfl, I.hok.fresh (Nat.le_refl _), rfl, fun ys hy => by rw [I.tuple_inj hy hq]; exact hx⟩, ⟨⟨x', ?_⟩, hst.1.at fun o q => (sb.2 it (Ne.symm hne)).trans q, hne⟩, fun b hb => ?_⟩
    · have e1 : ((i + 1 : Nat) : Int) = (i : Int) + 1 := by omega
      rw [e1]; exact he'
    · have hb' : b < s.heap.objs.size := by
        have e' : b = e ∨ b = it := by simpa using hb
        rcases e' with z | z
        · rw [z]; exact hel
        · rw [z]; exact hil
      rw [upd_ne (Nat.ne_of_lt hb')]
      exact (hf b hb).1
  done := by
    intro X hP hw hK hc i pins s σ H E I hf st hg
    subst hP hw hK
    obtain ⟨⟨old, he⟩, hit, hne⟩ := st
    obtain ⟨xs, hq, hx⟩ := hg
    obtain ⟨its, rv, p, hz⟩ := I.tuple hq
    have hl := rv.length
    have hT : s.TypeIs (.ref e) "enumerate" := ⟨_, he, rfl⟩
    unfold pyNext
    refine wpAny_bind (wpAny_attempt (wpAny_callSpecial?_slot (name := Str.ofString "__next__") hT F.slot_enumerate_next
      (wpAny_call_entry F.slot_enumerate_next hT F.entry_enumerate_next ?_ (F.args_enumerate_next_1 _))))
    show wpAny _ _ (field (.ref e) 2 >>= _) _ _ _
    refine wpAny_bind (wpAny_field he rfl (x := .ref it) rfl ?_)
    refine wpAny_bind (wpAny_nextOf_tuple_end (show X.A.in1.handled = none from I.ok.hd hc) hit (show s.heap.IsTuple a its.toArray from p) (by simp; omega) fun h' x hx' hcl => ?_)
    obtain ⟨o, ho, hcc⟩ := hcl
    refine wpAny_bind (wpAny_isInstance (T := "StopIteration") (b := true) ⟨o, ho, hcc⟩ isSubtype_stop ?_)
    obtain ⟨f0, f1, f2, f3, f4, f5⟩ := hf it (by simp)
    exact wpAny_pure ⟨rfl, I.turned (t' := s.toks) (fun b o hb q => hx' b o hb q) f0 f1 f3 f4 f5⟩
  self := fun A i s Q E st h => let ⟨⟨_, he⟩, _⟩ := st; wpAny_pyIter_enum he h

/-! ### zip of two tuples to one name: the tuple stays out -/
theorem zipT_next_item_held {prog : Program} {w : World} {A : Around} {E : Value → Shared → Prop} {s : Shared} {z TI TO T i1 i2 l1 l2 : Addr} {f : Bool} {oT : Obj} {k1 k2 : Nat} {xs ys : Array Value} {x y : Value} {Q : Value → Shared → Prop} (D : ZipApart z TI TO i1 i2 l1 l2)
    (hz : IsZipHeld s.heap z TI TO T f) (hT : s.heap.get? T = some oT) (hTI : IsPair s.heap TI (.ref i1) (.ref i2))
    (h1 : s.heap.IsTupleIter i1 l1 k1) (h2 : s.heap.IsTupleIter i2 l2 k2) (hl1 : s.heap.IsTuple l1 xs) (hl2 : s.heap.IsTuple l2 ys) (hx : xs[k1]? = some x) (hy : ys[k2]? = some y)
    (hQ : ∀ h', IsZipHeld h' z TI TO T true → h'.IsTupleIter i1 l1 (k1 + 1) → h'.IsTupleIter i2 l2 (k2 + 1) → IsPair h' s.heap.objs.size x y → h'.objs.size = s.heap.objs.size + 1 →
      (∀ c o, c ≠ z → c ≠ i1 → c ≠ i2 → s.heap.get? c = some o → h'.get? c = some o) → Q (.ref s.heap.objs.size) { s with heap := h' }) :
    wpAny (model prog w) A (Builtin.«zip.__next__» ⟨[.ref z], []⟩) (fun fin s' => ∃ v, fin = .done (.ret v) ∧ Q v s') E s := by
  show wpAny _ _ (field (.ref z) 2 >>= _) _ _ _
  refine wpAny_bind (wpAny_field hz rfl (x := .bool false) rfl ?_)
  show wpAny _ _ (field (.ref z) 3 >>= _) _ _ _
  refine wpAny_bind (wpAny_field hz rfl (x := .ref TI) rfl ?_)
  refine wpAny_bind (wpAny_seqItems hTI rfl ?_)
  show wpAny _ _ (Builtin.SmallTypes.ownedTupleIsFree (.ref z) >>= _) _ _ _
  refine wpAny_bind (wpAny_tupleHeld_zip hz hT fun h₁ hz₁ hs₁ => ?_)
  simp only [Bool.false_eq_true, if_false]
  refine wpAny_bind ?_
  rw [← Array.forIn_toList]
  simp only [List.forIn_cons, List.forIn_nil]
  refine wpAny_bind (wpAny_bind (wpAny_holding ?_))
  show wpAny _ _ (Builtin.SmallTypes.nextOf (.ref i1) >>= _) _ _ _
  refine wpAny_bind (wpAny_nextOf_tuple_item (s := { s with heap := h₁ }) (h1.at fun o q => hs₁.extBut _ _ D.i1z q) (hl1.extBut hs₁.extBut D.l1z) hx fun h₂ h1₂ hs₂ => wpAny_pure ?_)
  refine wpAny_pure ?_
  refine wpAny_bind (wpAny_bind (wpAny_holding ?_))
  show wpAny _ _ (Builtin.SmallTypes.nextOf (.ref i2) >>= _) _ _ _
  refine wpAny_bind (wpAny_nextOf_tuple_item (s := { s with heap := h₂ }) (h2.at fun o q => hs₂.extBut _ _ D.i12.symm (hs₁.extBut _ _ D.i2z q)) ((hl2.extBut hs₁.extBut D.l2z).extBut hs₂.extBut D.l2i1) hy fun h₃ h2₃ hs₃ => wpAny_pure ?_)
  refine wpAny_pure (wpAny_pure ?_)
  show wpAny _ _ (newTuple [x, y] >>= _) _ _ _
  refine wpAny_bind (wpAny_newTuple ?_)
  have hsz : h₃.objs.size = s.heap.objs.size := by rw [hs₃.1, hs₂.1, hs₁.1]
  have hz₃ : IsZipHeld h₃ z TI TO T true := hs₃.extBut _ _ D.i2z.symm (hs₂.extBut _ _ D.i1z.symm hz₁)
  have hk : ∀ c o, c ≠ z → c ≠ i1 → c ≠ i2 → s.heap.get? c = some o → h₃.get? c = some o := fun c o c1 c2 c3 e => hs₃.extBut _ _ c3 (hs₂.extBut _ _ c2 (hs₁.extBut _ _ c1 e))
  have h1₃ : h₃.IsTupleIter i1 l1 (k1 + 1) := h1₂.at fun o q => hs₃.extBut _ _ D.i12 q
  refine wpAny_pure ⟨_, rfl, ?_⟩
  show Q (.ref h₃.objs.size) _
  have hp : IsPair (h₃.push { cls := .type "tuple", data := .seq #[x, y] }) h₃.objs.size x y := Heap.get?_push_size _ rfl
  have hz4 : (h₃.push { cls := .type "tuple", data := .seq #[x, y] }).objs.size = h₃.objs.size + 1 := Heap.size_push ..
  rw [hsz] at hp hz4 ⊢
  exact hQ _ (Heap.get?_push_of_some _ hz₃) (h1₃.at fun o e => Heap.get?_push_of_some _ e) (h2₃.at fun o e => Heap.get?_push_of_some _ e) hp hz4 fun c o c1 c2 c3 e => Heap.get?_push_of_some _ (hk c o c1 c2 c3 e)
theorem zipT_next_end_held {prog : Program} {w : World} {A : Around} {E : Value → Shared → Prop} {s : Shared} {z TI TO T i1 i2 l1 l2 : Addr} {f : Bool} {oT : Obj} {k1 k2 : Nat} {xs ys : Array Value} {Q : Fin → Shared → Prop} (hh : A.handled = none) (D : ZipApart z TI TO i1 i2 l1 l2)
    (hz : IsZipHeld s.heap z TI TO T f) (hT : s.heap.get? T = some oT) (hTI : IsPair s.heap TI (.ref i1) (.ref i2))
    (h1 : s.heap.IsTupleIter i1 l1 k1) (h2 : s.heap.IsTupleIter i2 l2 k2) (hl1 : s.heap.IsTuple l1 xs) (hl2 : s.heap.IsTuple l2 ys) (hend : xs[k1]? = none ∨ ys[k2]? = none)
    (hE : ∀ h' e, (∀ c o, c ≠ z → c ≠ i1 → c ≠ i2 → s.heap.get? c = some o → h'.get? c = some o) → (∃ o, h'.get? e = some o ∧ o.cls = .type "StopIteration") → E (.ref e) { s with heap := h' }) :
    wpAny (model prog w) A (Builtin.«zip.__next__» ⟨[.ref z], []⟩) Q E s := by
  show wpAny _ _ (field (.ref z) 2 >>= _) _ _ _
  refine wpAny_bind (wpAny_field hz rfl (x := .bool false) rfl ?_)
  show wpAny _ _ (field (.ref z) 3 >>= _) _ _ _
  refine wpAny_bind (wpAny_field hz rfl (x := .ref TI) rfl ?_)
  refine wpAny_bind (wpAny_seqItems hTI rfl ?_)
  show wpAny _ _ (Builtin.SmallTypes.ownedTupleIsFree (.ref z) >>= _) _ _ _
  refine wpAny_bind (wpAny_tupleHeld_zip hz hT fun h₁ hz₁ hs₁ => ?_)
  simp only [Bool.false_eq_true, if_false]
  refine wpAny_bind ?_
  rw [← Array.forIn_toList]
  simp only [List.forIn_cons, List.forIn_nil]
  refine wpAny_bind (wpAny_bind (wpAny_holding ?_))
  show wpAny _ _ (Builtin.SmallTypes.nextOf (.ref i1) >>= _) _ _ _
  cases hx : xs[k1]? with
  | none =>
    refine wpAny_bind (wpAny_nextOf_tuple_end (s := { s with heap := h₁ }) hh (h1.at fun o q => hs₁.extBut _ _ D.i1z q) (hl1.extBut hs₁.extBut D.l1z) hx fun h₂ e hs₂ he => ?_)
    exact hE h₂ e (fun c o c1 c2 _ x => hs₂ _ _ c2 (hs₁.extBut _ _ c1 x)) he
  | some x =>
    have hy : ys[k2]? = none := by rcases hend with h | h; rw [hx] at h; cases h; exact h
    refine wpAny_bind (wpAny_nextOf_tuple_item (s := { s with heap := h₁ }) (h1.at fun o q => hs₁.extBut _ _ D.i1z q) (hl1.extBut hs₁.extBut D.l1z) hx fun h₂ h1₂ hs₂ => wpAny_pure ?_)
    refine wpAny_pure ?_
    refine wpAny_bind (wpAny_bind (wpAny_holding ?_))
    show wpAny _ _ (Builtin.SmallTypes.nextOf (.ref i2) >>= _) _ _ _
    refine wpAny_bind (wpAny_nextOf_tuple_end (s := { s with heap := h₂ }) hh (h2.at fun o q => hs₂.extBut _ _ D.i12.symm (hs₁.extBut _ _ D.i2z q)) ((hl2.extBut hs₁.extBut D.l2z).extBut hs₂.extBut D.l2i1) hy fun h₃ e hs₃ he => ?_)
    exact hE h₃ e (fun c o c1 c2 c3 x => hs₃ _ _ c3 (hs₂.extBut _ _ c2 (hs₁.extBut _ _ c1 x))) he
theorem pyNext_zipT_item_held {prog : Program} {w : World} {A : Around} {E : Value → Shared → Prop} {s : Shared} {z TI TO T i1 i2 l1 l2 : Addr} {f : Bool} {oT : Obj} {k1 k2 : Nat} {xs ys : Array Value} {x y : Value} {Q : Option Value → Shared → Prop} (D : ZipApart z TI TO i1 i2 l1 l2)
    (hz : IsZipHeld s.heap z TI TO T f) (hT : s.heap.get? T = some oT) (hTI : IsPair s.heap TI (.ref i1) (.ref i2))
    (h1 : s.heap.IsTupleIter i1 l1 k1) (h2 : s.heap.IsTupleIter i2 l2 k2) (hl1 : s.heap.IsTuple l1 xs) (hl2 : s.heap.IsTuple l2 ys) (hx : xs[k1]? = some x) (hy : ys[k2]? = some y)
    (hQ : ∀ h', IsZipHeld h' z TI TO T true → h'.IsTupleIter i1 l1 (k1 + 1) → h'.IsTupleIter i2 l2 (k2 + 1) → IsPair h' s.heap.objs.size x y → h'.objs.size = s.heap.objs.size + 1 →
      (∀ c o, c ≠ z → c ≠ i1 → c ≠ i2 → s.heap.get? c = some o → h'.get? c = some o) → Q (some (.ref s.heap.objs.size)) { s with heap := h' }) :
    wpAny (model prog w) A (pyNext (.ref z)) Q E s := by
  have hTy : s.TypeIs (.ref z) "zip" := ⟨_, hz, rfl⟩
  unfold pyNext
  exact wpAny_bind (wpAny_attempt (wpAny_callSpecial?_slot (name := Str.ofString "__next__") hTy F.slot_zip_next
    (wpAny_call_entry F.slot_zip_next hTy F.entry_zip_next
      (zipT_next_item_held D hz hT hTI h1 h2 hl1 hl2 hx hy fun h' a1 a3 a4 a5 a6 a7 => wpAny_pure (hQ h' a1 a3 a4 a5 a6 a7)) (F.args_zip_next_1 _))))
theorem pyNext_zipT_end_held {prog : Program} {w : World} {A : Around} {E : Value → Shared → Prop} {s : Shared} {z TI TO T i1 i2 l1 l2 : Addr} {f : Bool} {oT : Obj} {k1 k2 : Nat} {xs ys : Array Value} {Q : Option Value → Shared → Prop} (hh : A.handled = none) (D : ZipApart z TI TO i1 i2 l1 l2)
    (hz : IsZipHeld s.heap z TI TO T f) (hT : s.heap.get? T = some oT) (hTI : IsPair s.heap TI (.ref i1) (.ref i2))
    (h1 : s.heap.IsTupleIter i1 l1 k1) (h2 : s.heap.IsTupleIter i2 l2 k2) (hl1 : s.heap.IsTuple l1 xs) (hl2 : s.heap.IsTuple l2 ys) (hend : xs[k1]? = none ∨ ys[k2]? = none)
    (hQ : ∀ h', (∀ c o, c ≠ z → c ≠ i1 → c ≠ i2 → s.heap.get? c = some o → h'.get? c = some o) → Q none { s with heap := h' }) : wpAny (model prog w) A (pyNext (.ref z)) Q E s := by
  have hTy : s.TypeIs (.ref z) "zip" := ⟨_, hz, rfl⟩
  unfold pyNext
  refine wpAny_bind (wpAny_attempt (wpAny_callSpecial?_slot (name := Str.ofString "__next__") hTy F.slot_zip_next
    (wpAny_call_entry F.slot_zip_next hTy F.entry_zip_next (zipT_next_end_held hh D hz hT hTI h1 h2 hl1 hl2 hend fun h' e hk he => ?_) (F.args_zip_next_1 _))))
  obtain ⟨o, ho, hc⟩ := he
  refine wpAny_bind (wpAny_isInstance (T := "StopIteration") (b := true) ⟨o, ho, hc⟩ isSubtype_stop ?_)
  exact wpAny_pure (hQ _ hk)

/-! the zip takes its own tuple again, or a first time: told by what it asks of that tuple -/
section
variable {prog : Program} {w : World} {A : Around} {E : Value → Shared → Prop} {s : Shared}
def Takes1 (prog : Program) (w : World) (A : Around) (z : Addr) (s : Shared) : Prop := ∀ (Q : Bool → Shared → Prop) (E : Value → Shared → Prop), Q true s → wpAny (model prog w) A (Builtin.SmallTypes.ownedTupleIsFree (.ref z)) Q E s
theorem takes_none {z TI TO : Addr} (hz : IsZip s.heap z TI TO .none) : Takes1 prog w A z s := fun Q E q => by
  unfold Builtin.SmallTypes.ownedTupleIsFree
  exact wpAny_bind (wpAny_field hz rfl (x := .none) rfl (wpAny_pure q))
theorem alive_no {a : Addr} {Q : Option Obj → Shared → Prop} (ho : s.heap.get? a = none) (h : Q none s) : wpAny (model prog w) A (loadIfAlive a) Q E s := by
  have h' : Q (s.heap.get? a) s := by rw [ho]; exact h
  exact fun _ _ _ => h'
/-- a zip with any two first fields -/
abbrev IsZip3 (h : Heap) (z TI TO : Addr) (v : Value) (f : Bool) : Prop :=
  h.get? z = some { cls := .type "zip", dict := none, data := .fields #[v, .bool f, .bool false, .ref TI, .ref TO], slots := #[] }
theorem takes_gone {z TI TO T : Addr} {f : Bool} (hz : IsZip3 s.heap z TI TO (rawInt T) f) (hT : s.heap.get? T = none) : Takes1 prog w A z s := fun Q E q => by
  unfold Builtin.SmallTypes.ownedTupleIsFree
  refine wpAny_bind (wpAny_field hz rfl (x := rawInt T) rfl ?_)
  show wpAny _ _ (loadIfAlive ((T : Int).toNat) >>= _) _ _ _
  rw [Int.toNat_natCast]
  refine wpAny_bind (alive_no hT ?_)
  simp only [Option.isNone_none, if_true]
  exact wpAny_pure q
theorem zipO_next_item {z TI TO i1 i2 l1 l2 : Addr} {k1 k2 : Nat} {xs ys : Array Value} {x y a b v : Value} {f : Bool} {Q : Value → Shared → Prop} (D : ZipApart z TI TO i1 i2 l1 l2)
    (hz : IsZip3 s.heap z TI TO v f) (hfree : Takes1 prog w A z s) (hTI : IsPair s.heap TI (.ref i1) (.ref i2)) (hTO : IsPair s.heap TO a b)
    (h1 : s.heap.IsTupleIter i1 l1 k1) (h2 : s.heap.IsTupleIter i2 l2 k2) (hl1 : s.heap.IsTuple l1 xs) (hl2 : s.heap.IsTuple l2 ys) (hx : xs[k1]? = some x) (hy : ys[k2]? = some y)
    (hQ : ∀ h', IsZip3 h' z TI TO (rawInt s.heap.objs.size) false → IsPair h' TO x y → h'.IsTupleIter i1 l1 (k1 + 1) → h'.IsTupleIter i2 l2 (k2 + 1) → IsPair h' s.heap.objs.size x y → h'.objs.size = s.heap.objs.size + 1 →
      (∀ c o, c ≠ z → c ≠ TO → c ≠ i1 → c ≠ i2 → s.heap.get? c = some o → h'.get? c = some o) → Q (.ref s.heap.objs.size) { s with heap := h' }) :
    wpAny (model prog w) A (Builtin.«zip.__next__» ⟨[.ref z], []⟩) (fun fin s' => ∃ v, fin = .done (.ret v) ∧ Q v s') E s := by
  show wpAny _ _ (field (.ref z) 2 >>= _) _ _ _
  refine wpAny_bind (wpAny_field hz rfl (x := .bool false) rfl ?_)
  show wpAny _ _ (field (.ref z) 3 >>= _) _ _ _
  refine wpAny_bind (wpAny_field hz rfl (x := .ref TI) rfl ?_)
  refine wpAny_bind (wpAny_seqItems hTI rfl ?_)
  show wpAny _ _ (Builtin.SmallTypes.ownedTupleIsFree (.ref z) >>= _) _ _ _
  refine wpAny_bind (hfree _ _ ?_)
  simp only [if_true]
  refine wpAny_bind (wpAny_rule ?_)
  refine wpAny_bind (wpAny_field hz rfl (x := .ref TO) rfl ?_)
  refine wpAny_bind (wpAny_setField_rec hz (by simp) fun h₁ hz₁ hs₁ => ?_)
  replace hz₁ : IsZip3 h₁ z TI TO .ellipsis f := hz₁
  refine wpAny_bind ?_
  simp only [List.zipIdx_cons, List.zipIdx_nil, List.forIn_cons, List.forIn_nil]

  refine wpAny_bind (wpAny_bind (wpAny_onRaise ?_))
  show wpAny _ _ (Builtin.SmallTypes.nextOf (.ref i1) >>= _) _ _ _
  refine wpAny_bind (RZ.nextOf_tuple_item (h1.extBut hs₁.extBut D.i1z) (hl1.extBut hs₁.extBut D.l1z) hx fun h₂ h1₂ hs₂ => wpAny_pure ?_)
  have hTO₂ : IsPair h₂ TO a b := hs₂.extBut _ _ D.TOi1 (hs₁.extBut _ _ D.TOz hTO)
  refine wpAny_bind (wpAny_seqItems hTO₂ rfl ?_)
  refine wpAny_bind (wpAny_updateSeq_pair hTO₂ fun h₃ hTO₃ hs₃ => ?_)
  replace hTO₃ : IsPair h₃ TO x b := hTO₃
  refine wpAny_bind (wpAny_letGo (wpAny_pure ?_))

  refine wpAny_bind (wpAny_bind (wpAny_onRaise ?_))
  show wpAny _ _ (Builtin.SmallTypes.nextOf (.ref i2) >>= _) _ _ _
  refine wpAny_bind (RZ.nextOf_tuple_item (((h2.extBut hs₁.extBut D.i2z).extBut hs₂.extBut D.i12.symm).extBut hs₃.extBut D.TOi2.symm)
    (((hl2.extBut hs₁.extBut D.l2z).extBut hs₂.extBut D.l2i1).extBut hs₃.extBut D.l2TO) hy fun h₄ h2₄ hs₄ => wpAny_pure ?_)
  have hTO₄ : IsPair h₄ TO x b := hs₄.extBut _ _ D.TOi2 hTO₃
  refine wpAny_bind (wpAny_seqItems hTO₄ rfl ?_)
  refine wpAny_bind (wpAny_updateSeq_pair hTO₄ fun h₅ hTO₅ hs₅ => ?_)
  replace hTO₅ : IsPair h₅ TO x y := hTO₅
  refine wpAny_bind (wpAny_letGo (wpAny_pure (wpAny_pure ?_)))

  refine wpAny_bind (wpAny_seqItems hTO₅ rfl ?_)
  refine wpAny_bind (wpAny_newTuple ?_)
  have hsz : h₅.objs.size = s.heap.objs.size := by rw [hs₅.1, hs₄.1, hs₃.1, hs₂.1, hs₁.1]
  have hz₅ : IsZip3 h₅ z TI TO .ellipsis f := hs₅.extBut _ _ D.TOz.symm (hs₄.extBut _ _ D.i2z.symm (hs₃.extBut _ _ D.TOz.symm (hs₂.extBut _ _ D.i1z.symm hz₁)))
  have hk₅ : ∀ c o, c ≠ z → c ≠ TO → c ≠ i1 → c ≠ i2 → s.heap.get? c = some o → h₅.get? c = some o := fun c o c1 c2 c3 c4 e =>
    hs₅.extBut _ _ c2 (hs₄.extBut _ _ c4 (hs₃.extBut _ _ c2 (hs₂.extBut _ _ c3 (hs₁.extBut _ _ c1 e))))
  have h1₅ : h₅.IsTupleIter i1 l1 (k1 + 1) := ((h1₂.extBut hs₃.extBut D.TOi1.symm).extBut hs₄.extBut D.i12).extBut hs₅.extBut D.TOi1.symm
  have h2₅ : h₅.IsTupleIter i2 l2 (k2 + 1) := h2₄.extBut hs₅.extBut D.TOi2.symm
  have hzlt : z < h₅.objs.size := Heap.lt_size hz₅
  have hTOlt : TO < h₅.objs.size := Heap.lt_size hTO₅
  have hi1lt : i1 < h₅.objs.size := by obtain ⟨_, e, _⟩ := h1₅; exact Heap.lt_size e
  have hi2lt : i2 < h₅.objs.size := by obtain ⟨_, e, _⟩ := h2₅; exact Heap.lt_size e
  show wpAny _ _ (Builtin.SmallTypes.ownedTupleHandOut (.ref z) (.ref h₅.objs.size) >>= _) _ _ _
  refine wpAny_bind ?_
  unfold Builtin.SmallTypes.ownedTupleHandOut
  have hz₆ : IsZip3 (h₅.push { cls := .type "tuple", data := .seq #[x, y] }) z TI TO .ellipsis f := Heap.get?_push_of_some _ hz₅
  refine wpAny_bind (wpAny_setField_rec hz₆ (by simp) fun h₇ hz₇ hs₇ => ?_)
  replace hz₇ : IsZip3 h₇ z TI TO (rawInt h₅.objs.size) f := hz₇
  refine wpAny_setField_rec hz₇ (by simp) fun h₈ hz₈ hs₈ => ?_
  replace hz₈ : IsZip3 h₈ z TI TO (rawInt h₅.objs.size) false := hz₈
  have up : ∀ c o, c ≠ z → h₅.get? c = some o → h₈.get? c = some o := fun c o c1 e => hs₈.extBut _ _ c1 (hs₇.extBut _ _ c1 (Heap.get?_push_of_some _ e))
  have hT₈ : IsPair h₈ h₅.objs.size x y := hs₈.extBut _ _ (Nat.ne_of_gt hzlt) (hs₇.extBut _ _ (Nat.ne_of_gt hzlt) (Heap.get?_push_size _ rfl))
  have hz8 : h₈.objs.size = h₅.objs.size + 1 := by rw [hs₈.1, hs₇.1, Heap.size_push]
  rw [hsz] at hz₈ hT₈ hz8
  refine wpAny_pure ⟨_, rfl, ?_⟩
  show Q (.ref h₅.objs.size) _
  rw [hsz]
  exact hQ h₈ hz₈ (up _ _ D.TOz hTO₅) (h1₅.at fun o e => up _ o D.i1z e) (h2₅.at fun o e => up _ o D.i2z e) hT₈ hz8 fun c o c1 c2 c3 c4 e => up c o c1 (hk₅ c o c1 c2 c3 c4 e)

theorem zipO_next_end {z TI TO i1 i2 l1 l2 : Addr} {k1 k2 : Nat} {xs ys : Array Value} {a b v : Value} {f : Bool} {Q : Fin → Shared → Prop} (hh : A.handled = none) (D : ZipApart z TI TO i1 i2 l1 l2)
    (hz : IsZip3 s.heap z TI TO v f) (hfree : Takes1 prog w A z s) (hTI : IsPair s.heap TI (.ref i1) (.ref i2)) (hTO : IsPair s.heap TO a b)
    (h1 : s.heap.IsTupleIter i1 l1 k1) (h2 : s.heap.IsTupleIter i2 l2 k2) (hl1 : s.heap.IsTuple l1 xs) (hl2 : s.heap.IsTuple l2 ys) (hend : xs[k1]? = none ∨ ys[k2]? = none)
    (hE : ∀ h' e, (∀ c o, c ≠ z → c ≠ TO → c ≠ i1 → c ≠ i2 → s.heap.get? c = some o → h'.get? c = some o) → (∃ o, h'.get? e = some o ∧ o.cls = .type "StopIteration") → E (.ref e) { s with heap := h' }) :
    wpAny (model prog w) A (Builtin.«zip.__next__» ⟨[.ref z], []⟩) Q E s := by
  show wpAny _ _ (field (.ref z) 2 >>= _) _ _ _
  refine wpAny_bind (wpAny_field hz rfl (x := .bool false) rfl ?_)
  show wpAny _ _ (field (.ref z) 3 >>= _) _ _ _
  refine wpAny_bind (wpAny_field hz rfl (x := .ref TI) rfl ?_)
  refine wpAny_bind (wpAny_seqItems hTI rfl ?_)
  show wpAny _ _ (Builtin.SmallTypes.ownedTupleIsFree (.ref z) >>= _) _ _ _
  refine wpAny_bind (hfree _ _ ?_)
  simp only [if_true]
  refine wpAny_bind (wpAny_rule ?_)
  refine wpAny_bind (wpAny_field hz rfl (x := .ref TO) rfl ?_)
  refine wpAny_bind (wpAny_setField_rec hz (by simp) fun h₁ hz₁ hs₁ => ?_)
  replace hz₁ : IsZip3 h₁ z TI TO .ellipsis f := hz₁
  refine wpAny_bind ?_
  simp only [List.zipIdx_cons, List.zipIdx_nil, List.forIn_cons, List.forIn_nil]
  refine wpAny_bind (wpAny_bind (wpAny_onRaise ?_))
  show wpAny _ _ (Builtin.SmallTypes.nextOf (.ref i1) >>= _) _ _ _
  cases hx : xs[k1]? with
  | none =>
    refine wpAny_bind (RZ.nextOf_tuple_end hh (h1.extBut hs₁.extBut D.i1z) (hl1.extBut hs₁.extBut D.l1z) hx fun h₂ e hs₂ he => ?_)
    obtain ⟨oe, hoe, hce⟩ := he
    have hz₂ : IsZip3 h₂ z TI TO .ellipsis f := hs₂ _ _ D.i1z.symm hz₁
    have hez : e ≠ z := fun x => by subst x; rw [hz₂] at hoe; cases hoe; simp at hce
    refine wpAny_setField_rec hz₂ (by simp) fun h₃ _ hs₃ => hE h₃ e (fun c o c1 _ c3 _ x => hs₃.extBut _ _ c1 (hs₂ _ _ c3 (hs₁.extBut _ _ c1 x))) ⟨oe, hs₃.extBut _ _ hez hoe, hce⟩
  | some x =>
    have hy : ys[k2]? = none := by rcases hend with h | h; rw [hx] at h; cases h; exact h
    refine wpAny_bind (RZ.nextOf_tuple_item (h1.extBut hs₁.extBut D.i1z) (hl1.extBut hs₁.extBut D.l1z) hx fun h₂ h1₂ hs₂ => wpAny_pure ?_)
    have hTO₂ : IsPair h₂ TO a b := hs₂.extBut _ _ D.TOi1 (hs₁.extBut _ _ D.TOz hTO)
    refine wpAny_bind (wpAny_seqItems hTO₂ rfl ?_)
    refine wpAny_bind (wpAny_updateSeq_pair hTO₂ fun h₃ hTO₃ hs₃ => ?_)
    refine wpAny_bind (wpAny_letGo (wpAny_pure ?_))
    refine wpAny_bind (wpAny_bind (wpAny_onRaise ?_))
    show wpAny _ _ (Builtin.SmallTypes.nextOf (.ref i2) >>= _) _ _ _
    refine wpAny_bind (RZ.nextOf_tuple_end hh (((h2.extBut hs₁.extBut D.i2z).extBut hs₂.extBut D.i12.symm).extBut hs₃.extBut D.TOi2.symm)
      (((hl2.extBut hs₁.extBut D.l2z).extBut hs₂.extBut D.l2i1).extBut hs₃.extBut D.l2TO) hy fun h₄ e hs₄ he => ?_)
    obtain ⟨oe, hoe, hce⟩ := he
    have hz₄ : IsZip3 h₄ z TI TO .ellipsis f := hs₄ _ _ D.i2z.symm (hs₃.extBut _ _ D.TOz.symm (hs₂.extBut _ _ D.i1z.symm hz₁))
    have hez : e ≠ z := fun x => by subst x; rw [hz₄] at hoe; cases hoe; simp at hce
    refine wpAny_setField_rec hz₄ (by simp) fun h₅ _ hs₅ => hE h₅ e (fun c o c1 c2 c3 c4 x => hs₅.extBut _ _ c1 (hs₄ _ _ c4 (hs₃.extBut _ _ c2 (hs₂.extBut _ _ c3 (hs₁.extBut _ _ c1 x))))) ⟨oe, hs₅.extBut _ _ hez hoe, hce⟩


end

section
variable {prog : Program} {w : World} {A : Around} {E : Value → Shared → Prop} {s : Shared}
def ZSt (h : Heap) (z TI TO : Addr) : Prop := ∃ v f, IsZip3 h z TI TO v f ∧ ((v = .none ∧ f = false) ∨ ∃ T : Addr, v = rawInt T)
theorem zipN_item {z TI TO i1 i2 l1 l2 : Addr} {k1 k2 : Nat} {xs ys : Array Value} {x y a b : Value} {Q : Option Value → Shared → Prop} (D : ZipApart z TI TO i1 i2 l1 l2)
    (hz : ZSt s.heap z TI TO) (hTI : IsPair s.heap TI (.ref i1) (.ref i2)) (hTO : IsPair s.heap TO a b)
    (h1 : s.heap.IsTupleIter i1 l1 k1) (h2 : s.heap.IsTupleIter i2 l2 k2) (hl1 : s.heap.IsTuple l1 xs) (hl2 : s.heap.IsTuple l2 ys) (hx : xs[k1]? = some x) (hy : ys[k2]? = some y)
    (hQ : ∀ h', ZSt h' z TI TO → (∃ a b, IsPair h' TO a b) → h'.IsTupleIter i1 l1 (k1 + 1) → h'.IsTupleIter i2 l2 (k2 + 1) → IsPair h' s.heap.objs.size x y →
      (∀ c o, c ≠ z → c ≠ TO → c ≠ i1 → c ≠ i2 → s.heap.get? c = some o → h'.get? c = some o) → Q (some (.ref s.heap.objs.size)) { s with heap := h' }) :
    wpAny (model prog w) A (pyNext (.ref z)) Q E s := by
  obtain ⟨v, f, hz, hv⟩ := hz
  have hTy : s.TypeIs (.ref z) "zip" := ⟨_, hz, rfl⟩
  unfold pyNext
  refine wpAny_bind (wpAny_attempt (wpAny_callSpecial?_slot (name := Str.ofString "__next__") hTy F.slot_zip_next
    (wpAny_call_entry F.slot_zip_next hTy F.entry_zip_next ?_ (F.args_zip_next_1 _))))
  rcases hv with ⟨rfl, rfl⟩ | ⟨T, rfl⟩
  · exact zipO_next_item D hz (takes_none hz) hTI hTO h1 h2 hl1 hl2 hx hy fun h' a1 a2 a3 a4 a5 a6 a7 => wpAny_pure (hQ h' ⟨_, _, a1, .inr ⟨_, rfl⟩⟩ ⟨_, _, a2⟩ a3 a4 a5 a7)
  · cases hT : s.heap.get? T with
    | none => exact zipO_next_item D hz (takes_gone hz hT) hTI hTO h1 h2 hl1 hl2 hx hy fun h' a1 a2 a3 a4 a5 a6 a7 => wpAny_pure (hQ h' ⟨_, _, a1, .inr ⟨_, rfl⟩⟩ ⟨_, _, a2⟩ a3 a4 a5 a7)
    | some oT =>
      exact zipT_next_item_held D hz hT hTI h1 h2 hl1 hl2 hx hy fun h' a1 a3 a4 a5 a6 a7 =>
        wpAny_pure (hQ h' ⟨_, _, a1, .inr ⟨_, rfl⟩⟩ ⟨a, b, a7 TO _ D.TOz D.TOi1 D.TOi2 hTO⟩ a3 a4 a5 fun c o c1 _ c3 c4 e => a7 c o c1 c3 c4 e)
theorem stop_end {e : Addr} {h' : Heap} {Q : Option Value → Shared → Prop} (he : ∃ o, h'.get? e = some o ∧ o.cls = .type "StopIteration") (q : Q none { s with heap := h' }) :
    wpAny (model prog w) A (do
      let b ← isInstance (.ref e) (.type "StopIteration")
      if b = true then pure none else throw (Value.ref e)) Q E { s with heap := h' } := by
  obtain ⟨o, ho, hc⟩ := he
  refine wpAny_bind (wpAny_isInstance (T := "StopIteration") (b := true) ⟨o, ho, hc⟩ isSubtype_stop ?_)
  exact wpAny_pure q
theorem zipN_end {z TI TO i1 i2 l1 l2 : Addr} {k1 k2 : Nat} {xs ys : Array Value} {a b : Value} {Q : Option Value → Shared → Prop} (hh : A.handled = none) (D : ZipApart z TI TO i1 i2 l1 l2)
    (hz : ZSt s.heap z TI TO) (hTI : IsPair s.heap TI (.ref i1) (.ref i2)) (hTO : IsPair s.heap TO a b)
    (h1 : s.heap.IsTupleIter i1 l1 k1) (h2 : s.heap.IsTupleIter i2 l2 k2) (hl1 : s.heap.IsTuple l1 xs) (hl2 : s.heap.IsTuple l2 ys) (hend : xs[k1]? = none ∨ ys[k2]? = none)
    (hQ : ∀ h', (∀ c o, c ≠ z → c ≠ TO → c ≠ i1 → c ≠ i2 → s.heap.get? c = some o → h'.get? c = some o) → Q none { s with heap := h' }) : wpAny (model prog w) A (pyNext (.ref z)) Q E s := by
  obtain ⟨v, f, hz, hv⟩ := hz
  have hTy : s.TypeIs (.ref z) "zip" := ⟨_, hz, rfl⟩
  unfold pyNext
  refine wpAny_bind (wpAny_attempt (wpAny_callSpecial?_slot (name := Str.ofString "__next__") hTy F.slot_zip_next
    (wpAny_call_entry F.slot_zip_next hTy F.entry_zip_next ?_ (F.args_zip_next_1 _))))
  rcases hv with ⟨rfl, rfl⟩ | ⟨T, rfl⟩
  · refine zipO_next_end (show A.in1.handled = none from hh) D hz (takes_none hz) hTI hTO h1 h2 hl1 hl2 hend fun h' e hk he => ?_
    exact stop_end he (hQ _ hk)
  · cases hT : s.heap.get? T with
    | none =>
      refine zipO_next_end (show A.in1.handled = none from hh) D hz (takes_gone hz hT) hTI hTO h1 h2 hl1 hl2 hend fun h' e hk he => ?_
      exact stop_end he (hQ _ hk)
    | some oT =>
      refine zipT_next_end_held (show A.in1.handled = none from hh) D hz hT hTI h1 h2 hl1 hl2 hend fun h' e hk he => ?_
      exact stop_end he (hQ _ fun c o c1 _ c3 c4 q => hk c o c1 c3 c4 q)
end

theorem turn_zipTN {P : Program} {w : World} {K : PySem.W.Frag} {x : Str} {px : Pos} {a b z TI TO i1 i2 : Addr} (D : ZipApart z TI TO i1 i2 a b) :
    Turn P w K (.Name x px) (RZ.ItzT K a b) [z, TI, TO, i1, i2] z (fun i h => ZSt h z TI TO ∧ IsPair h TI (.ref i1) (.ref i2) ∧ (∃ x y, IsPair h TO x y) ∧ h.IsTupleIter i1 a i ∧ h.IsTupleIter i2 b i) where
  mem := by simp
  obj := fun i h st c hc => by
    obtain ⟨⟨v0, f0, hz, _⟩, hTI, ⟨x, y, hTO⟩, ⟨o1, e1, _, d1⟩, ⟨o2, e2, _, d2⟩⟩ := st
    have e' : c = z ∨ c = TI ∨ c = TO ∨ c = i1 ∨ c = i2 := by simpa using hc
    rcases e' with q | q | q | q | q
    · rw [q]; exact ⟨_, hz, fun v q => nomatch q⟩
    · rw [q]; exact ⟨_, hTI, fun v q => nomatch q⟩
    · rw [q]; exact ⟨_, hTO, fun v q => nomatch q⟩
    · rw [q]; exact ⟨o1, e1, fun v q => by rw [d1] at q; cases q⟩
    · rw [q]; exact ⟨o2, e2, fun v q => by rw [d2] at q; cases q⟩
  keep := fun i h h' st k => by
    obtain ⟨⟨v0, f0, hz, hv⟩, hTI, ⟨x, y, hTO⟩, h1, h2⟩ := st
    exact ⟨⟨v0, f0, k z (by simp) _ hz, hv⟩, k TI (by simp) _ hTI, ⟨x, y, k TO (by simp) _ hTO⟩, h1.at fun o q => k i1 (by simp) o q, h2.at fun o q => k i2 (by simp) o q⟩
  item := by
    intro X hP hw hK hc i pins s σ H E I hf st hg
    subst hP hw hK
    obtain ⟨hz, hTI, ⟨x0, y0, hTO⟩, h1, h2⟩ := st
    obtain ⟨xs, ys, x, y, hqx, hqy, hx, hy⟩ := hg
    obtain ⟨its, rv, p, _⟩ := I.tuple hqx
    obtain ⟨its2, rv2, p2, _⟩ := I.tuple hqy
    obtain ⟨u, hu, ru⟩ := rv.get hx
    obtain ⟨u2, hu2, ru2⟩ := rv2.get hy
    have hzl : z < s.heap.objs.size := by obtain ⟨_, _, q, _⟩ := hz; exact Heap.lt_size q
    refine zipN_item D hz hTI hTO h1 h2 (show s.heap.IsTuple a its.toArray from p) (show s.heap.IsTuple b its2.toArray from p2) (x := u) (y := u2) (by simpa using hu) (by simpa using hu2) fun h' z' TO' h1' h2' hT hk => ?_
    refine ⟨_, rfl, ?_⟩
    unfold letOwnedTupleGo
    refine wpAny_pure ?_
    have new : ObjOk X.prog X.w (upd H s.heap.objs.size (.tup [x, y])) h' s.heap.objs.size (.tup [x, y]) :=
      ⟨by show 2 ≤ sizeLine; decide, [u, u2], .cons ru (.cons ru2 .nil), ⟨_, hT, rfl, _, rfl⟩⟩
    have I1 : Inv X pins σ (upd H s.heap.objs.size (.tup [x, y])) { s with heap := h' } :=
      I.turnedNew (t' := s.toks) (ch := [z, TI, TO, i1, i2]) (fun c o hb q => hk c o (fun q' => hb (by simp [q'])) (fun q' => hb (by simp [q'])) (fun q' => hb (by simp [q'])) (fun q' => hb (by simp [q'])) q) hf (Nat.le_refl _) new
    refine ⟨.ref s.heap.objs.size, _, I1, rfl, ⟨_, x, y, rfl, I.hok.fresh (Nat.le_refl _), rfl, fun l hl => by rw [I.tuple_inj hl hqx]; exact hx, fun l hl => by rw [I.tuple_inj hl hqy]; exact hy⟩, ⟨z', ?_, TO', h1', h2'⟩, fun c hcm => ?_⟩
    · exact hk _ _ D.TIz D.TITO D.TIi1 D.TIi2 hTI
    · have hlt : c < s.heap.objs.size := by
        have e' : c = z ∨ c = TI ∨ c = TO ∨ c = i1 ∨ c = i2 := by simpa using hcm
        rcases e' with q | q | q | q | q
        · rw [q]; exact hzl
        · rw [q]; exact Heap.lt_size hTI
        · rw [q]; exact Heap.lt_size hTO
        · rw [q]; obtain ⟨_, e1, _⟩ := h1; exact Heap.lt_size e1
        · rw [q]; obtain ⟨_, e2, _⟩ := h2; exact Heap.lt_size e2
      rw [upd_ne (Nat.ne_of_lt hlt)]
      exact (hf c hcm).1
  done := by
    intro X hP hw hK hc i pins s σ H E I hf st hg
    subst hP hw hK
    obtain ⟨hz, hTI, ⟨x0, y0, hTO⟩, h1, h2⟩ := st
    obtain ⟨xs, ys, hqx, hqy, hend⟩ := hg
    obtain ⟨its, rv, p, _⟩ := I.tuple hqx
    obtain ⟨its2, rv2, p2, _⟩ := I.tuple hqy
    have l1 := rv.length
    have l2 := rv2.length
    have he : its.toArray[i]? = none ∨ its2.toArray[i]? = none := by
      rcases hend with q | q
      · exact .inl (by simp; omega)
      · exact .inr (by simp; omega)
    exact zipN_end (I.ok.hd hc) D hz hTI hTO h1 h2 (show s.heap.IsTuple a its.toArray from p) (show s.heap.IsTuple b its2.toArray from p2) he fun h' hk => ⟨rfl, I.turnedL (t' := s.toks) (ch := [z, TI, TO, i1, i2]) (fun c o hb q =>
      hk c o (fun q' => hb (by simp [q'])) (fun q' => hb (by simp [q'])) (fun q' => hb (by simp [q'])) (fun q' => hb (by simp [q'])) q) hf⟩
  self := fun A i s Q E st h => by
    obtain ⟨⟨v0, f0, hz, _⟩, _⟩ := st
    have hT : s.TypeIs (.ref z) "zip" := ⟨_, hz, rfl⟩
    refine wpAny_pyIter_slot hT F.slot_zip_iter (wpAny_call_entry F.slot_zip_iter hT F.entry_zip_iter ?_ (F.args_zip_iter_1 _))
    show wpAny _ _ (ret (.ref z)) _ _ s
    exact wpAny_pure ⟨_, rfl, "zip", _, hT, F.slot_zip_next.lookup, h⟩

/-- zip(t, u) of two tuples, walked by one name -/
def iZipTN (K : PySem.W.Frag) (ta : TA) : TI := fun σ H R => ta σ H fun vs H1 => ∃ a b xs ys, vs = [.ref a, .ref b] ∧ SqT K H1 a xs ∧ SqT K H1 b ys ∧ R (RZ.ItzT K a b) H1
theorem pi_zipTN {X : Cx} {e e2 : Expr} {ta : TA} {p pos px : Pos} {x : Str} (hg : Gl X "zip") (hm : X.mg "zip" = none) (ha : PA X [e, e2] ta)
    (hs : starEach [e, e2] X.env = (false, eval e X.env) :: starEach [e2] X.env := by rfl) (hpl : (backTo pos (starEach [e2] X.env)).any (·.1) = false := by rfl) :
    PI X (.Name x px) (.Call (.Name "zip" p) [e, e2] [] pos) (iZipTN X.K ta) := by
  refine ⟨fun pins s σ H R I h => ?_⟩
  refine Call_ (ld_blt I hg hm PyProof.Rows.boot_zip (PyProof.Rows.callWith_type1 (thn (ha.run pos pins s σ H _ I h) fun us s1 ⟨vs, H1, I1, r1, q1⟩ => ?_) hs hpl))
  obtain ⟨a, b, xs, ys, ex, hqx, hqy, q⟩ := q1
  subst ex
  cases r1 with
  | cons r rr =>
    cases rr with
    | cons r' rr =>
      cases rr
      cases r
      cases r'
      have fresh5 : ∀ c, c ∈ [s1.heap.objs.size + 4, s1.heap.objs.size + 2, s1.heap.objs.size + 3, s1.heap.objs.size, s1.heap.objs.size + 1] → FpOk X pins H1 c := fun c hcm => by
        have e' : c = s1.heap.objs.size + 4 ∨ c = s1.heap.objs.size + 2 ∨ c = s1.heap.objs.size + 3 ∨ c = s1.heap.objs.size ∨ c = s1.heap.objs.size + 1 := by simpa using hcm
        have hle : s1.heap.objs.size ≤ c := by
          rcases e' with z | z | z | z | z
          · rw [z]; exact Nat.le_add_right _ _
          · rw [z]; exact Nat.le_add_right _ _
          · rw [z]; exact Nat.le_add_right _ _
          · rw [z]; exact Nat.le_refl _
          · rw [z]; exact Nat.le_add_right _ _
        exact I1.fpOk hle (I1.hok.fresh hle)
      obtain ⟨its, rv, p1, _⟩ := I1.tuple hqx
      obtain ⟨its2, rv2, p2, _⟩ := I1.tuple hqy
      obtain ⟨o1, ho1, _⟩ := id p1
      obtain ⟨o2, ho2, _⟩ := id p2
      refine RZ.call_zipT (show s1.heap.IsTuple a its.toArray from p1) (show s1.heap.IsTuple b its2.toArray from p2) fun h' hz hTI hTO h1 h2 hsz hk => wpAny_pyIter_zip hz ?_
      have I2 : Inv X pins σ H1 { s1 with heap := h' } := I1.kept (t' := s1.toks) hk
      exact ⟨s1.heap.objs.size + 4, [s1.heap.objs.size + 4, s1.heap.objs.size + 2, s1.heap.objs.size + 3, s1.heap.objs.size, s1.heap.objs.size + 1], _, _, H1, rfl, I2, turn_zipTN (PySem.W.ktu_apart s1.heap.objs.size a b (Heap.lt_size ho1) (Heap.lt_size ho2)), ⟨⟨_, _, hz, .inl ⟨rfl, rfl⟩⟩, hTI, ⟨_, _, hTO⟩, h1, h2⟩, fresh5, q⟩

/-- enumerate(t) of a tuple -/
def iEnumT (K : PySem.W.Frag) (ta : TA) : TI := fun σ H R => ta σ H fun vs H1 => ∃ a xs, vs = [.ref a] ∧ SqT K H1 a xs ∧ R (IteT K a) H1
set_option maxHeartbeats 1000000 in
theorem meets_enum1 {v : Value} {o : Obj} {H : Heap → Prop} (B : Begins v o H) :
    Meets (Builtin.«enumerate.__new__» ⟨[.type "enumerate", v], []⟩) (fun _ R s => H s.heap ∧
      R (.ok (.ret (.ref (s.heap.push o).objs.size))) { s with heap := (s.heap.push o).push { cls := .type "enumerate", data := .fields #[.none, .bool false, .ref s.heap.objs.size, rawInt 0, .none, .none] } }) :=
  .of_wp fun prog w A R s h => by
    obtain ⟨hp, g, d, tk, os⟩ := s; obtain ⟨h1, h⟩ := h
    have hsub := sub_enumerate
    have q1 : ∀ {A' : Around} {E : Value → Shared → Prop} {Q : Value → Shared → Prop}, Q (.ref hp.objs.size) ⟨hp.push o, g, d, tk, os⟩ → wpAny (model prog w) A' (pyIter v) Q E ⟨hp, g, d, tk, os⟩ :=
      fun q => B.iter prog w _ _ ⟨hp, g, d, tk, os⟩ _ h1 q
    wp_walk using q1
    refine wpAny_stack_any fun st => wpAny_pure ?_
    split
    · rename_i c _ _ _ _ _
      cases (c == Value.type "enumerate")
      · wp_walk using q1
        exact ⟨_, rfl, h⟩
      · wp_walk using q1
        exact ⟨_, rfl, h⟩
    · wp_walk using q1
      exact ⟨_, rfl, h⟩
theorem enum1_begins {prog : Program} {w : World} {A : Around} {E : Value → Shared → Prop} {s : Shared} {v : Value} {o : Obj} {H : Heap → Prop} {Q : Value → Shared → Prop} (B : Begins v o H) (h1 : H s.heap)
    (h : ∀ h', IsEnum h' (s.heap.objs.size + 1) s.heap.objs.size 0 .none → h'.get? s.heap.objs.size = some o → h'.objs.size = s.heap.objs.size + 2 →
      (∀ b o, s.heap.get? b = some o → h'.get? b = some o) → Q (.ref (s.heap.objs.size + 1)) { s with heap := h' }) :
    wpAny (model prog w) A (call (.type "enumerate") [v]) Q E s := by
  refine callType_new F.called_enumerate (by decide) (F.typeCall_enumerate_1 _) (F.newCall_enumerate_1 _) (fun obj => F.args_object_init_2 obj _) F.entry_enumerate_new
    (meets_enum1 B) ⟨h1, ?_⟩
  have hz : (s.heap.push o).objs.size = s.heap.objs.size + 1 := Heap.size_push ..
  show _ ∧ _
  rw [hz]
  have he : IsEnum ((s.heap.push o).push { cls := .type "enumerate", data := .fields #[.none, .bool false, .ref s.heap.objs.size, rawInt 0, .none, .none] }) (s.heap.objs.size + 1) s.heap.objs.size 0 .none := by
    have := Heap.get?_push_size (s.heap.push o) (o := { cls := .type "enumerate", data := .fields #[.none, .bool false, .ref s.heap.objs.size, rawInt 0, .none, .none] }) rfl
    rw [hz] at this; exact this
  exact ⟨⟨_, he, rfl⟩, h _ he (Heap.get?_push_of_some _ (Heap.get?_push_size _ B.free)) (by rw [Heap.size_push, hz]) fun b o x => Heap.get?_push_of_some _ (Heap.get?_push_of_some _ x)⟩
theorem pi_enumT {X : Cx} {e : Expr} {ta : TA} {p pos tpos : Pos} {elts : List Expr} {kk : Nat} (hg : Gl X "enumerate") (hm : X.mg "enumerate" = none) (ha : PA X [e] ta) (hs : starEach [e] X.env = [(false, eval e X.env)] := by rfl) :
    PI X (.Tuple elts kk tpos) (.Call (.Name "enumerate" p) [e] [] pos) (iEnumT X.K ta) := by
  refine ⟨fun pins s σ H R I h => ?_⟩
  refine Call_ (ld_blt I hg hm boot_enumerate (PyProof.Rows.callWith_type1 (thn (ha.run pos pins s σ H _ I h) fun us s1 ⟨vs, H1, I1, r1, q1⟩ => ?_) hs rfl))
  obtain ⟨a, xs, ex, hq, q⟩ := q1
  subst ex
  cases r1 with
  | cons r rr =>
    cases rr
    cases r
    obtain ⟨its, rv, p', hz⟩ := I1.tuple hq
    have hlt : a < s1.heap.objs.size := by obtain ⟨o, ho, _⟩ := id p'; exact Heap.lt_size ho
    refine enum1_begins (begins_tuple a its.toArray) (show s1.heap.IsTuple a its.toArray from p') fun h' he hit hsz hk => wpAny_pyIter_enum he ?_
    have I2 : Inv X pins σ H1 { s1 with heap := h' } := I1.kept (t' := s1.toks) hk
    refine ⟨s1.heap.objs.size + 1, [s1.heap.objs.size + 1, s1.heap.objs.size], _, _, H1, rfl, I2, turn_enumT a (s1.heap.objs.size + 1) s1.heap.objs.size (Nat.ne_of_lt (Nat.lt_succ_of_lt hlt)) (Nat.ne_of_lt hlt), ⟨⟨.none, he⟩, ⟨_, hit, rfl, rfl⟩, Nat.succ_ne_self _⟩, fun b hb => ?_, q⟩
    have e' : b = s1.heap.objs.size + 1 ∨ b = s1.heap.objs.size := by simpa using hb
    have hle : s1.heap.objs.size ≤ b := by
      rcases e' with z | z
      · rw [z]; exact Nat.le_add_right _ _
      · rw [z]; exact Nat.le_refl _
    exact I1.fpOk hle (I1.hok.fresh hle)

/-! ### enumerate over a dict that stands still -/
section
variable {prog : Program} {w : World} {A : Around} {E : Value → Shared → Prop} {s : Shared}
theorem nextOf_key_item {it d : Addr} {i n ep : Nat} {od : Obj} {es : Array DictEntry} {en : DictEntry} {Q : Value → Shared → Prop} (hit : s.heap.IsKeyIter it d i n ep) (hod : s.heap.get? d = some od) (hdd : od.data = .dict es ep)
    (hsz : es.size = n) (hx : es[i]? = some en) (hQ : ∀ h', h'.IsKeyIter it d (i + 1) n ep → Heap.SameBut it s.heap h' → Q en.key { s with heap := h' }) : wpAny (model prog w) A (Builtin.SmallTypes.nextOf (.ref it)) Q E s := by
  obtain ⟨o, ho, hc, hd⟩ := id hit
  unfold Builtin.SmallTypes.nextOf
  refine wpAny_bind (wpAny_callSpecial?_slot (name := Str.ofString "__next__") hit.typeIs F.slot_dict_keyiterator_next
    (wpAny_call_entry F.slot_dict_keyiterator_next hit.typeIs F.entry_dict_keyiterator_next ?_ (F.args_dict_keyiterator_next_1 _)))
  refine wpAny_bind (wpAny_pure ?_)
  refine wpAny_bind ?_
  refine wpAny_bind ?_
  first | refine wpAny_bind (wpAny_typeNameOfWhole_keyiter hit.typeIs (wpAny_pure ?_)) | refine wpAny_bind (wpAny_typeNameOf_keyiter hit.typeIs (wpAny_pure ?_))
  refine wpAny_bind (wpAny_fieldsOf ho hd ?_)
  have hown : Builtin.Dict_items.ownsTuple "dict_keyiterator" = false := by decide
  simp only [hown, Bool.false_eq_true, if_false]
  show wpAny _ _ (if (Value.ref d == Value.none) = true then _ else _) _ _ s
  rw [if_neg (show ¬ ((Value.ref d == Value.none) = true) from Bool.false_ne_true)]
  refine wpAny_bind (wpAny_pure ?_)
  refine wpAny_bind (wpAny_dictEntries hod hdd ?_)
  rw [if_neg (by rw [hsz]; simp)]
  refine wpAny_bind (wpAny_pure ?_)
  refine wpAny_bind (wpAny_dictEpoch hod hdd ?_)
  rw [if_neg (by simp)]
  refine wpAny_pure ?_
  obtain ⟨hlt', hen⟩ := Array.getElem?_eq_some_iff.mp hx
  simp only [show ¬ ((i : Int) < 0) from by omega, if_false, Int.toNat_natCast, Array.getElem?_eq_getElem hlt']
  refine wpAny_bind ?_
  first | refine wpAny_bind (wpAny_typeNameOfWhole_keyiter hit.typeIs (wpAny_pure ?_)) | refine wpAny_bind (wpAny_typeNameOf_keyiter hit.typeIs (wpAny_pure ?_))
  refine wpAny_bind (wpAny_isOneOf_keyiter hit.typeIs ?_)
  show wpAny _ _ (setField (.ref it) 1 (rawInt ((i : Int) + 1)) >>= _) _ _ s
  refine wpAny_bind (wpAny_setField ho hd (by simp) ?_)
  have hit' : (s.heap.update it (Obj.mapFields (·.setIfInBounds 1 (rawInt ((i : Int) + 1))))).IsKeyIter it d (i + 1) n ep :=
    ⟨_, Heap.get?_update_self _ ho (Obj.isFreed_of_fields (Obj.data_mapFields hd _)), (Obj.cls_mapFields ..).trans hc, by rw [Obj.data_mapFields hd]; simp [rawInt]⟩
  refine wpAny_bind (wpAny_holding ?_)
  refine wpAny_bind (wpAny_isOneOf_keyiter (s := { s with heap := s.heap.update it (Obj.mapFields (·.setIfInBounds 1 (rawInt ((i : Int) + 1)))) }) hit'.typeIs ?_)
  show wpAny _ _ (pure es[i].key) _ _ _
  rw [hen]
  exact wpAny_pure (wpAny_pure ⟨_, rfl, wpAny_pure (hQ _ hit' (Heap.SameBut.update ..))⟩)
theorem nextOf_key_end {it d : Addr} {i n ep : Nat} {od : Obj} {es : Array DictEntry} {Q : Value → Shared → Prop} (hh : A.handled = none) (hit : s.heap.IsKeyIter it d i n ep) (hod : s.heap.get? d = some od) (hdd : od.data = .dict es ep)
    (hsz : es.size = n) (hge : n ≤ i) (hE : ∀ h' e, Heap.ExtBut it s.heap h' → (∃ o, h'.get? e = some o ∧ o.cls = .type "StopIteration") → E (.ref e) { s with heap := h' }) : wpAny (model prog w) A (Builtin.SmallTypes.nextOf (.ref it)) Q E s := by
  obtain ⟨o, ho, hc, hd⟩ := id hit
  unfold Builtin.SmallTypes.nextOf
  refine wpAny_bind (wpAny_callSpecial?_slot (name := Str.ofString "__next__") hit.typeIs F.slot_dict_keyiterator_next
    (wpAny_call_entry F.slot_dict_keyiterator_next hit.typeIs F.entry_dict_keyiterator_next ?_ (F.args_dict_keyiterator_next_1 _)))
  refine wpAny_bind (wpAny_pure ?_)
  refine wpAny_bind ?_
  refine wpAny_bind ?_
  first | refine wpAny_bind (wpAny_typeNameOfWhole_keyiter hit.typeIs (wpAny_pure ?_)) | refine wpAny_bind (wpAny_typeNameOf_keyiter hit.typeIs (wpAny_pure ?_))
  refine wpAny_bind (wpAny_fieldsOf ho hd ?_)
  have hown : Builtin.Dict_items.ownsTuple "dict_keyiterator" = false := by decide
  simp only [hown, Bool.false_eq_true, if_false]
  show wpAny _ _ (if (Value.ref d == Value.none) = true then _ else _) _ _ s
  rw [if_neg (show ¬ ((Value.ref d == Value.none) = true) from Bool.false_ne_true)]
  refine wpAny_bind (wpAny_pure ?_)
  refine wpAny_bind (wpAny_dictEntries hod hdd ?_)
  rw [if_neg (by rw [hsz]; simp)]
  refine wpAny_bind (wpAny_pure ?_)
  refine wpAny_bind (wpAny_dictEpoch hod hdd ?_)
  rw [if_neg (by simp)]
  refine wpAny_pure ?_
  have hge' : es.size ≤ i := by rw [hsz]; exact hge
  simp only [show ¬ ((i : Int) < 0) from by omega, if_false, Int.toNat_natCast, Array.getElem?_eq_none hge']
  refine wpAny_bind ?_
  first | refine wpAny_bind (wpAny_typeNameOfWhole_keyiter hit.typeIs (wpAny_pure ?_)) | refine wpAny_bind (wpAny_typeNameOf_keyiter hit.typeIs (wpAny_pure ?_))
  show wpAny _ _ (setField (.ref it) 0 .none >>= _) _ _ s
  refine wpAny_bind (wpAny_setField ho hd (by simp) ?_)
  show wpAny _ _ (newExc (.type "StopIteration") [] >>= _) _ _ _
  refine wpAny_bind ?_
  simp only [newExc, newTuple]
  refine wpAny_bind (wpAny_newObj_type ?_ (by size_fits))
  refine wpAny_bind (m := firstArgMember _ _) (wpAny_of_eq (a := Value.none) (by first | rfl | (simp only [firstArgMember]; rfl)) ?_)
  refine wpAny_newObj_type ?_ (by size_fits)
  simp only [raiseNew]
  refine wpAny_bind (wpAny_handled ?_)
  rw [show A.in1.handled = none from hh]
  refine wpAny_bind (wpAny_pure (wpAny_throw ?_))
  exact hE _ _ (((Heap.SameBut.update ..).extBut.push _).push _) ⟨_, Heap.get?_push_size _ rfl, rfl⟩

end
theorem drawsKeys {prog : Program} {w : World} {A : Around} (hh : A.handled = none) (it d : Addr) (hne : d ≠ it) (o : Obj) (es : Array DictEntry) (ep : Nat) (hdd : o.data = .dict es ep) :
    Draws prog w A it [it, d] es.size (fun i v => ∃ en, es[i]? = some en ∧ v = en.key) (fun i h => h.IsKeyIter it d i es.size ep ∧ h.get? d = some o) where
  live := fun _ _ st => let ⟨o, ho, _⟩ := st.1; ⟨o, ho⟩
  frame := fun _ _ _ st hk => ⟨st.1.at fun o e => hk it (by simp) o e, hk d (by simp) _ st.2⟩
  item := fun i s Q E hi st hQ => by
    refine nextOf_key_item st.1 st.2 hdd rfl (en := es[i]) (by simp [hi]) fun h' hit' hs' => ?_
    exact hQ _ h' s.toks ⟨es[i], by simp [hi], rfl⟩ ⟨hit', hs'.extBut _ _ hne st.2⟩ hs'
  done := fun s Q E st hE => nextOf_key_end hh st.1 st.2 hdd rfl (Nat.le_refl _) hE
theorem beginsKeys (d : Addr) (o : Obj) (es : Array DictEntry) (ep : Nat) (hd : (d == sysModules) = false) (hc : o.ExactDict) (hdd : o.data = .dict es ep) :
    Begins (.ref d) { cls := .type "dict_keyiterator", data := .fields #[.ref d, .int 0 0, .int es.size 0, .int ep 0] } fun h => h.get? d = some o where
  iter := fun prog w A E s Q ho h => iter_keys hd ho hc hdd h
  keeps := fun h h' x hk => hk d o x
  free := rfl
def IteK (d : Addr) (o : Obj) (kvs : List (Key × V)) : It :=
  ⟨fun i H => H d = some (.frz o (.dK kvs)) ∧ i < kvs.length, fun i H v H' => ∃ T k u, v = .ref T ∧ H T = none ∧ kvs[i]? = some (k, u) ∧ H' = upd H T (.tup [.int (i : Nat), kV k]), fun i H => H d = some (.frz o (.dK kvs)) ∧ kvs.length ≤ i⟩
theorem turn_enumK {P : Program} {w : World} {K : PySem.W.Frag} {elts : List Expr} {kk : Nat} {tpos : Pos} {kvs : List (Key × V)} (d e it : Addr) (o : Obj) (es : Array DictEntry) (ep : Nat) (hod : o.data = .dict es ep) (hsz : es.size = kvs.length) (hde : d ≠ e) (hdi : d ≠ it) :
    Turn P w K (.Tuple elts kk tpos) (IteK d o kvs) [e, it] e (fun i h => (∃ old, IsEnum h e it ((i : Nat) : Int) old) ∧ h.IsKeyIter it d i es.size ep ∧ e ≠ it) where
  mem := by simp
  obj := fun i h st b hb => by
    obtain ⟨⟨old, he⟩, ⟨oi, ho, hc, hd⟩, _⟩ := st
    have e' : b = e ∨ b = it := by simpa using hb
    rcases e' with z | z
    · rw [z]; exact ⟨_, he, fun v q => nomatch q⟩
    · rw [z]; exact ⟨oi, ho, fun v q => by rw [hd] at q; cases q⟩
  keep := fun i h h' st k => let ⟨⟨old, he⟩, hi, hne⟩ := st; ⟨⟨old, k e (by simp) _ he⟩, hi.at fun o q => k it (by simp) o q, hne⟩
  item := by
    intro X hP hw hK hc i pins s σ H E I hf st hg
    subst hP hw hK
    obtain ⟨⟨old, he⟩, hit, hne⟩ := st
    obtain ⟨hd, hi⟩ := hg
    obtain ⟨hs, hgd, hx, es', ep', vs, hdt, hsz', kv, hm⟩ := I.frzK hd
    obtain ⟨rfl, rfl⟩ : es' = es ∧ ep' = ep := by
      rw [hod] at hdt
      cases hdt
      exact ⟨rfl, rfl⟩
    have hel : e < s.heap.objs.size := Heap.lt_size he
    have hil : it < s.heap.objs.size := by obtain ⟨_, q, _⟩ := hit; exact Heap.lt_size q
    have hlt : i < es'.size := by omega
    have D := drawsKeys (prog := X.prog) (w := X.w) (A := X.A.in1) (show X.A.in1.handled = none from I.ok.hd hc) it d hdi o es' ep' hod
    have hef : e ∉ [it, d] := fun q => by
      have q' : e = it ∨ e = d := by simpa using q
      rcases q' with q' | q'
      · exact hne q'
      · exact hde q'.symm
    obtain ⟨⟨k, v⟩, hkv⟩ : ∃ p, kvs[i]? = some p := ⟨kvs[i], List.getElem?_eq_getElem hi⟩
    refine wpAny_pyNext_enum_itemC D he ⟨hit, hgd⟩ hlt hne hef fun x' h' tk hP ho hst hT hsz2 hk => ?_
    obtain ⟨en, hen, rfl⟩ := hP
    have ru : RelV (kV k) en.key := by
      obtain ⟨u, hu, _⟩ := kv_get kv hkv
      obtain ⟨o2, es2, ho2, _, hd2, _, hp, _⟩ := hm
      rw [hgd] at ho2
      cases ho2
      rw [hod] at hd2
      cases hd2
      exact relV_key (hp.get? (e := en) (by rw [Array.getElem?_toList]; exact hen) hu).1
    refine ⟨_, rfl, wpAny_letOwnedTupleGo_enum (s := { s with heap := h', toks := tk + 1 }) ho fun h'' he' sb => ?_⟩
    have hT2 : h''.get? s.heap.objs.size = some { cls := .type "tuple", data := .seq #[.int i tk, en.key] } := (sb.2 _ (Nat.ne_of_gt hel)).trans hT
    have new : ObjOk X.prog X.w (upd H s.heap.objs.size (.tup [.int (i : Nat), kV k])) h'' s.heap.objs.size (.tup [.int (i : Nat), kV k]) :=
      ⟨by show 2 ≤ sizeLine; decide, [.int i tk, en.key], .cons ⟨_, rfl⟩ (.cons ru .nil), ⟨_, hT2, rfl, _, rfl⟩⟩
    have I1 : Inv X pins σ (upd H s.heap.objs.size (.tup [.int (i : Nat), kV k])) { s with heap := h'', toks := tk + 1 } :=
      I.turnedNew (ch := [e, it]) (fun b ob hb q => (sb.2 b (fun z => hb (by simp [z]))).trans (hk b ob (fun z => hb (by simp [z])) (fun z => hb (by simp [z])) q)) hf (Nat.le_refl _) new
    refine ⟨.ref s.heap.objs.size, _, I1, rfl, ⟨_, k, v, rfl, I.hok.fresh (Nat.le_refl _), hkv, rfl⟩, ⟨⟨en.key, ?_⟩, hst.1.at fun o q => (sb.2 it (Ne.symm hne)).trans q, hne⟩, fun b hb => ?_⟩
    · have e1 : ((i + 1 : Nat) : Int) = (i : Int) + 1 := by omega
      rw [e1]; exact he'
    · have hb' : b < s.heap.objs.size := by
        have e' : b = e ∨ b = it := by simpa using hb
        rcases e' with z | z
        · rw [z]; exact hel
        · rw [z]; exact hil
      rw [upd_ne (Nat.ne_of_lt hb')]
      exact (hf b hb).1
  done := by
    intro X hP hw hK hc i pins s σ H E I hf st hg
    subst hP hw hK
    obtain ⟨⟨old, he⟩, hit, hne⟩ := st
    obtain ⟨hd, hi⟩ := hg
    obtain ⟨hs, hgd, hx, es', ep', vs, hdt, hsz', kv, hm⟩ := I.frzK hd
    obtain ⟨rfl, rfl⟩ : es' = es ∧ ep' = ep := by
      rw [hod] at hdt
      cases hdt
      exact ⟨rfl, rfl⟩
    have hT : s.TypeIs (.ref e) "enumerate" := ⟨_, he, rfl⟩
    unfold pyNext
    refine wpAny_bind (wpAny_attempt (wpAny_callSpecial?_slot (name := Str.ofString "__next__") hT F.slot_enumerate_next
      (wpAny_call_entry F.slot_enumerate_next hT F.entry_enumerate_next ?_ (F.args_enumerate_next_1 _))))
    show wpAny _ _ (field (.ref e) 2 >>= _) _ _ _
    refine wpAny_bind (wpAny_field he rfl (x := .ref it) rfl ?_)
    refine wpAny_bind (nextOf_key_end (show X.A.in1.handled = none from I.ok.hd hc) hit hgd hod rfl (by omega) fun h' x hx' hcl => ?_)
    obtain ⟨f0, f1, f2, f3, f4, f5⟩ := hf it (by simp)
    exact stop_end hcl ⟨rfl, I.turned (t' := s.toks) (fun b o hb q => hx' b o hb q) f0 f1 f3 f4 f5⟩
  self := fun A i s Q E st h => let ⟨⟨_, he⟩, _⟩ := st; wpAny_pyIter_enum he h
def iEnumK (ta : TA) : TI := fun σ H R => ta σ H fun vs H1 => ∃ d o kvs, vs = [.ref d] ∧ H1 d = some (.frz o (.dK kvs)) ∧ R (IteK d o kvs) H1
theorem pi_enumK {X : Cx} {e : Expr} {ta : TA} {p pos tpos : Pos} {elts : List Expr} {kk : Nat} (hg : Gl X "enumerate") (hm : X.mg "enumerate" = none) (ha : PA X [e] ta) (hs : starEach [e] X.env = [(false, eval e X.env)] := by rfl) :
    PI X (.Tuple elts kk tpos) (.Call (.Name "enumerate" p) [e] [] pos) (iEnumK ta) := by
  refine ⟨fun pins s σ H R I h => ?_⟩
  refine Call_ (ld_blt I hg hm boot_enumerate (PyProof.Rows.callWith_type1 (thn (ha.run pos pins s σ H _ I h) fun us s1 ⟨vs, H1, I1, r1, q1⟩ => ?_) hs rfl))
  obtain ⟨d, o, kvs, ex, hq, q⟩ := q1
  subst ex
  cases r1 with
  | cons r rr =>
    cases rr
    cases r
    obtain ⟨hsm, hgd, hx, es, ep, vs, hdt, hsz', kv, hm⟩ := I1.frzK hq
    have hlt : d < s1.heap.objs.size := Heap.lt_size hgd
    refine enum1_begins (beginsKeys d o es ep hsm hx hdt) hgd fun h' he hit hsz hk => wpAny_pyIter_enum he ?_
    have I2 : Inv X pins σ H1 { s1 with heap := h' } := I1.kept (t' := s1.toks) hk
    refine ⟨s1.heap.objs.size + 1, [s1.heap.objs.size + 1, s1.heap.objs.size], _, _, H1, rfl, I2, turn_enumK d (s1.heap.objs.size + 1) s1.heap.objs.size o es ep hdt hsz' (Nat.ne_of_lt (Nat.lt_succ_of_lt hlt)) (Nat.ne_of_lt hlt), ⟨⟨.none, he⟩, ⟨_, hit, rfl, rfl⟩, Nat.succ_ne_self _⟩, fun b hb => ?_, q⟩
    have e' : b = s1.heap.objs.size + 1 ∨ b = s1.heap.objs.size := by simpa using hb
    have hle : s1.heap.objs.size ≤ b := by
      rcases e' with z | z
      · rw [z]; exact Nat.le_add_right _ _
      · rw [z]; exact Nat.le_refl _
    exact I1.fpOk hle (I1.hok.fresh hle)
end XR

-- text: XSlice
set_option Elab.async false
set_option linter.all false
set_option maxRecDepth 100000
namespace XR
open PySem PySem.Spec PyProof.Rows L2
/-! ### l[::2] of a list of three -/
theorem pick_two (x y z : Value) : slicePick #[x, y, z] none none (some 2) = #[x, z] := by
  with_unfolding_all rfl
def tTwo3 (K : PySem.W.Frag) (te : TE) : TE := fun σ H Q => te σ H fun x H1 => ∃ a u v w, x = .ref a ∧ SqL K H1 a [u, v, w] ∧ ∀ p, H1 p = none → Q (.ref p) (upd H1 p (.lst [u, w]))
theorem pe_two3 {X : Cx} {e : Expr} {te : TE} {k : Nat} {p1 p3 pos : Pos} (he : PE X e te) : PE X (.Subscript e (.Slice none none (some (.Constant (.int 2) k p1)) p3) pos) (tTwo3 X.K te) := by
  refine ⟨fun pins s σ H Q I h => ?_⟩
  refine Subscript_ (thn (he.run pins s σ H _ I h) fun v s1 ⟨x, H1, I1, r1, q1⟩ => ?_)
  obtain ⟨a, u, v, w, ex, hx, q⟩ := q1
  subst ex
  cases r1
  have hst : PO X (some (.Constant (.int 2) k p1)) (tPart (tC (.int 2))) := po_some pe_int
  refine wpAny_Slice (thn (po_none.run pins s1 σ H1 (fun o H2 => o = none ∧ H2 = H1) I1 ⟨rfl, rfl⟩) fun vl s2 ⟨l, H2, I2, pl, el, e2⟩ => ?_)
  subst el e2
  refine thn (po_none.run pins s2 σ H2 (fun o H3 => o = none ∧ H3 = H2) I2 ⟨rfl, rfl⟩) fun vu s3 ⟨u', H3, I3, pu, eu, e3⟩ => ?_
  subst eu e3
  refine thn (hst.run pins s3 σ H3 (fun o H4 => o = some 2 ∧ H4 = H3) I3 ⟨2, rfl, rfl, rfl⟩) fun vs s4 ⟨o, H4, I4, ps, eo, e4⟩ => ?_
  subst eo e4
  have I5 : Inv X pins σ H4 { s4 with heap := s4.heap.push { cls := .type "slice", data := .fields #[vl, vu, vs] } } := I4.kept (t' := s4.toks) fun b ob q => Heap.get?_push_of_some _ q
  obtain ⟨its, r, ht, hz⟩ := I5.list hx
  have hlen := r.length
  show wpAny (model X.prog X.w) X.A (subscriptTail e (.Slice none none (some (.Constant (.int 2) k p1)) p3) (.ref a) (.ref s4.heap.objs.size)) (EP X pins σ Q) X.xe { s4 with heap := s4.heap.push { cls := .type "slice", data := .fields #[vl, vu, vs] } }
  refine tail_any (ops := [.ref a, .ref s4.heap.objs.size]) ht.isList.typeIs (PySem.slot_list_getitem.lookup) ?_ (by with_unfolding_all rfl)
  refine wpAny_getItem_list_slice ht.isList (Heap.IsSliceOf.new _ vl vu vs) pl pu ps (by decide) ?_ (by rw [List.size_toArray]; omega)
  cases r with
  | cons ru r =>
    cases r with
    | cons rv r =>
      cases r with
      | cons rw' r =>
        cases r
        rw [pick_two]
        refine ⟨.ref _, _, I5.laid (t' := s4.toks) (o := .lst [u, w]) (fun b ob q => Heap.get?_push_of_some _ q) (Nat.le_refl _) ?_, rfl, q _ (I5.hok.fresh (Nat.le_refl _))⟩
        exact ⟨by show 2 ≤ sizeLine; decide, [_, _], 0, .cons ru (.cons rw' .nil), Heap.get?_push_size _ rfl⟩
end XR

-- text: DBase
set_option Elab.async false
set_option linter.all false
set_option maxRecDepth 100000
/-! data at a value, seen past the objects of a set N that may change -/
namespace DB
open PySem PySem.Spec PyProof.Rows L2
section
open Classical
/-- the heap without the objects of N -/
noncomputable def hide (N : Addr → Prop) (H : Hp) : Hp := fun a => if N a then none else H a
end
theorem hide_off {N : Addr → Prop} {H : Hp} {a : Addr} (h : ¬ N a) : hide N H a = H a := if_neg h
theorem hide_on {N : Addr → Prop} {H : Hp} {a : Addr} (h : N a) : hide N H a = none := if_pos h
theorem hide_some {N : Addr → Prop} {H : Hp} {a : Addr} {o : HO} (h : hide N H a = some o) : ¬ N a ∧ H a = some o := by
  by_cases q : N a
  · rw [hide_on q] at h; cases h
  · rw [hide_off q] at h; exact ⟨q, h⟩
theorem hide_same {N : Addr → Prop} {H : Hp} : Same (hide N H) H := fun a o e => (hide_some e).2
/-- N's objects stand -/
def Tr (N : Addr → Prop) (H : Hp) : Prop := ∀ a, N a → H a ≠ none
def no0 : Addr → Prop := fun _ => False
theorem tr0 (H : Hp) : Tr no0 H := fun _ h => h.elim
theorem hide0 (H : Hp) : hide no0 H = H := funext fun a => hide_off (fun h => h)
theorem Tr.off {N : Addr → Prop} {H : Hp} (t : Tr N H) {p : Addr} (h : H p = none) : ¬ N p := fun q => t p q h
theorem Tr.same {N : Addr → Prop} {H H' : Hp} (t : Tr N H) (e : Same H H') : Tr N H' := fun a q h => by
  cases r : H a with
  | none => exact t a q r
  | some o => rw [e a o r] at h; cases h
theorem hide_mono {N : Addr → Prop} {H H' : Hp} (e : Same H H') : Same (hide N H) (hide N H') := fun a o q => by
  obtain ⟨n, q⟩ := hide_some q
  rw [hide_off n]
  exact e a o q
theorem hide_upd {N : Addr → Prop} {H : Hp} {p : Addr} {o : HO} (h : ¬ N p) : hide N (upd H p o) p = some o := by
  rw [hide_off h, upd_same]
theorem same_new {H : Hp} {p : Addr} (h : H p = none) (o : HO) : Same H (upd H p o) := fun b u q => by rw [upd_ne (ne_of_none q h)]; exact q
theorem same_upd {H H' : Hp} {p : Addr} (h : H p = none) (e : Same H H') (o : HO) : Same H (upd H' p o) := fun b u q => by rw [upd_ne (ne_of_none q h)]; exact e b u q
/-- N and one more -/
def plus (N : Addr → Prop) (D : Addr) : Addr → Prop := fun a => a = D ∨ N a
theorem plus_same {N : Addr → Prop} {H H' : Hp} {D : Addr} (h : H D = none) (e : Same H H') : Same (hide N H) (hide (plus N D) H') := fun a o q => by
  obtain ⟨n, q⟩ := hide_some q
  have : ¬ plus N D a := fun z => z.elim (fun z => ne_of_none q h z) n
  rw [hide_off this]
  exact e a o q
theorem plus_down {N : Addr → Prop} {H : Hp} {D : Addr} : Same (hide (plus N D) H) (hide N H) := fun a o q => by
  obtain ⟨n, q⟩ := hide_some q
  rw [hide_off (fun z => n (Or.inr z))]
  exact q
theorem plus_upd {N : Addr → Prop} {H : Hp} {D : Addr} {o : HO} : Same (hide (plus N D) H) (hide (plus N D) (upd H D o)) := fun a u q => by
  obtain ⟨n, q⟩ := hide_some q
  rw [hide_off n, upd_ne (fun z => n (Or.inl z))]
  exact q
theorem Same.tupL {K : PySem.W.Frag} {H H' : Hp} {a : Addr} {xs : List V} (e : Same H H') (h : SqT K H a xs) : SqT K H' a xs := by
  rcases h with (h | ⟨o, h⟩) | h
  · exact .inl (.inl (e _ _ h))
  · exact .inl (.inr ⟨o, e _ _ h⟩)
  · exact .inr h
section
variable {K : PySem.W.Frag} {H H' : Hp}
mutual
theorem Dp.same (e : Same H H') : ∀ {v : V} {d : PyData}, Dp K H v d → Dp K H' v d
  | _, _, .non => .non
  | _, _, .bl b => .bl b
  | _, _, .int i => .int i
  | _, _, .str x => .str x
  | _, _, .lst h a => .lst (e.seq h) (DpAll.same e a)
  | _, _, .tup h a => .tup (Same.tupL e h) (DpAll.same e a)
theorem DpAll.same (e : Same H H') : ∀ {vs : List V} {ds : List PyData}, DpAll K H vs ds → DpAll K H' vs ds
  | _, _, .nil => .nil
  | _, _, .cons h a => .cons (Dp.same e h) (DpAll.same e a)
end
theorem DpAll.length : ∀ {vs : List V} {ds : List PyData}, DpAll K H vs ds → vs.length = ds.length
  | _, _, .nil => rfl
  | _, _, .cons _ a => by rw [List.length_cons, List.length_cons, DpAll.length a]
theorem DpAll.get : ∀ {vs : List V} {ds : List PyData} {i : Nat} {v : V}, DpAll K H vs ds → vs[i]? = some v → ∃ d, ds[i]? = some d ∧ Dp K H v d
  | _, _, i, v, .nil, h => by simp at h
  | _, _, 0, v, .cons q a, h => by
    have e := Option.some.inj (show some _ = some v from h)
    subst e
    exact ⟨_, rfl, q⟩
  | _, _, i + 1, v, .cons q a, h => DpAll.get (i := i) a (by simpa using h)
theorem DpAll.get' : ∀ {vs : List V} {ds : List PyData} {i : Nat} {d : PyData}, DpAll K H vs ds → ds[i]? = some d → ∃ v, vs[i]? = some v ∧ Dp K H v d
  | _, _, i, v, .nil, h => by simp at h
  | _, _, 0, v, .cons q a, h => by
    have e := Option.some.inj (show some _ = some v from h)
    subst e
    exact ⟨_, rfl, q⟩
  | _, _, i + 1, v, .cons q a, h => DpAll.get' (i := i) a (by simpa using h)
theorem DpAll.app : ∀ {vs ws : List V} {ds es : List PyData}, DpAll K H vs ds → DpAll K H ws es → DpAll K H (vs ++ ws) (ds ++ es)
  | _, _, _, _, .nil, b => b
  | _, _, _, _, .cons q a, b => .cons q (DpAll.app a b)
theorem DpAll.of_get : ∀ {vs : List V} {ds : List PyData}, vs.length = ds.length → (∀ (i : Nat) (v : V) (d : PyData), vs[i]? = some v → ds[i]? = some d → Dp K H v d) → DpAll K H vs ds
  | [], [], _, _ => .nil
  | v :: vs, d :: ds, hl, h => .cons (h 0 v d rfl rfl) (DpAll.of_get (by simpa using hl) fun i v' d' a b => h (i + 1) v' d' (by simpa using a) (by simpa using b))
  | [], _ :: _, hl, _ => by simp at hl
  | _ :: _, [], hl, _ => by simp at hl
theorem DpAll.drop {vs : List V} {ds : List PyData} (n : Nat) (h : DpAll K H vs ds) : DpAll K H (vs.drop n) (ds.drop n) := by
  induction n generalizing vs ds with
  | zero => exact h
  | succ n ih =>
    cases h with
    | nil => exact .nil
    | cons q a => exact ih a
theorem DpAll.bls {bs : List Bool} : ∀ {vs : List V}, DpAll K H vs (bs.map PyData.bool) → vs = bs.map V.bl := by
  induction bs with
  | nil => intro vs h; cases h; rfl
  | cons b bs ih =>
    intro vs h
    cases h with
    | cons q a => cases q; rw [ih a]; rfl
theorem DpAll.ints {ns : List Int} : ∀ {vs : List V}, DpAll K H vs (ns.map PyData.int) → vs = ns.map V.int := by
  induction ns with
  | nil => intro vs h; cases h; rfl
  | cons b bs ih =>
    intro vs h
    cases h with
    | cons q a => cases q; rw [ih a]; rfl
theorem DpAll.strs {ns : List Str} : ∀ {vs : List V}, DpAll K H vs (ns.map PyData.str) → vs = ns.map V.str := by
  induction ns with
  | nil => intro vs h; cases h; rfl
  | cons b bs ih =>
    intro vs h
    cases h with
    | cons q a => cases q; rw [ih a]; rfl
theorem DpAll.of_strs (K : PySem.W.Frag) (H : Hp) : ∀ (ns : List Str), DpAll K H (ns.map V.str) (ns.map PyData.str)
  | [] => .nil
  | n :: ns => .cons (.str n) (DpAll.of_strs K H ns)
theorem DpAll.of_ints (K : PySem.W.Frag) (H : Hp) : ∀ (ns : List Int), DpAll K H (ns.map V.int) (ns.map PyData.int)
  | [] => .nil
  | n :: ns => .cons (.int n) (DpAll.of_ints K H ns)
end

/-! ### the type of data -/
def tn : PyData → String
  | .none => "NoneType" | .bool _ => "bool" | .int _ => "int" | .str _ => "str" | .list _ => "list" | .tuple _ => "tuple" | .dict _ => "dict"
theorem Dp.ty {K : PySem.W.Frag} {H : Hp} : ∀ {v : V} {d : PyData}, Dp K H v d → TyX K H v (.type (tn d))
  | _, _, .non => .base .non
  | _, _, .bl b => .base (.bl b)
  | _, _, .int i => .base (.int i)
  | _, _, .str x => .base (.str x)
  | _, _, .lst (.inl (.inl h)) _ => .base (.lst h)
  | _, _, .lst (.inl (.inr ⟨o, h⟩)) _ => .base (.frz h)
  | _, _, .lst (.inr ⟨o, its, n, h, c, _⟩) _ => .kList h c
  | _, _, .tup (.inl (.inl h)) _ => .base (.tup h)
  | _, _, .tup (.inl (.inr ⟨o, h⟩)) _ => .fTuple h
  | _, _, .tup (.inr ⟨o, its, n, h, c, _⟩) _ => .kTuple h c
/-- isinstance(x, T) -/
theorem isi1 {K : PySem.W.Frag} {H : Hp} {v : V} {d : PyData} {T : String} {r : Bool} {Q : VK} (h : Dp K H v d) (hk : kitB (tn d) T = some r) (q : Q (.bl r) H) : rIsi K [v, .ty T] H Q :=
  ⟨v, .ty T, .type (tn d), .type T, r, rfl, .ty T, Dp.ty h, kit_ty hk, q⟩
def kitBs (t : String) : List String → Option Bool
  | [] => some false
  | c :: r => match kitB t c with
    | some true => some true
    | some false => kitBs t r
    | none => none
theorem kitAny_bs {K : PySem.W.Frag} {t : String} : ∀ {cs : List String} {r : Bool}, kitBs t cs = some r → PySem.W.kitAny K (.type t) (cs.map Value.type) = some r
  | [], r, h => h
  | c :: cs, r, h => by
    unfold kitBs at h
    cases e : kitB t c with
    | none => rw [e] at h; cases h
    | some b =>
      rw [e] at h
      refine kitAny_cons (kit_ty e) (fun hb => ?_) (fun hb => ?_)
      · subst hb
        exact kitAny_bs h
      · subst hb
        exact (Option.some.inj h).symm
theorem clsV_all : ∀ cs : List String, Paired ClsV (cs.map V.ty) (cs.map Value.type)
  | [] => .nil
  | c :: cs => .cons (.ty c) (clsV_all cs)
theorem isiT {K : PySem.W.Frag} {H : Hp} {v : V} {d : PyData} {p : Addr} {cs : List String} {r : Bool} {Q : VK} (h : Dp K H v d) (hp : H p = some (.tup (cs.map V.ty))) (hk : kitBs (tn d) cs = some r) (q : Q (.bl r) H) : rIsiT K [v, .ref p] H Q :=
  ⟨v, p, cs.map V.ty, .type (tn d), cs.map Value.type, r, rfl, hp, clsV_all cs, Dp.ty h, kitAny_bs hk, q⟩

/-! ### what is walked while nothing that stood changes -/
structure Src (J : It) (H1 : Hp) (n : Nat) (R : Nat → V → Hp → Prop) : Prop where
  go : ∀ i H', Same H1 H' → i < n → J.go i H'
  stop : ∀ H', Same H1 H' → J.stop n H'
  yld : ∀ i H' x H'', Same H1 H' → i < n → J.yld i H' x H'' → Same H' H'' ∧ R i x H''
section
variable {K : PySem.W.Frag} {H1 : Hp}
theorem src_list {a : Addr} {xs : List V} (h : SqL K H1 a xs) : Src (Itl K a) H1 xs.length (fun i x _ => xs[i]? = some x) where
  go := fun i H' e hi => ⟨xs, xs[i], e.seq h, by simp [hi]⟩
  stop := fun H' e => ⟨xs, e.seq h, Nat.le_refl _⟩
  yld := fun i H' x H'' e hi y => by
    obtain ⟨rfl, y⟩ := y
    exact ⟨Same.refl _, y xs (e.seq h)⟩
theorem src_tup {a : Addr} {xs : List V} (h : SqT K H1 a xs) : Src (Itt K a) H1 xs.length (fun i x _ => xs[i]? = some x) where
  go := fun i H' e hi => ⟨xs, xs[i], Same.tupL e h, by simp [hi]⟩
  stop := fun H' e => ⟨xs, Same.tupL e h, Nat.le_refl _⟩
  yld := fun i H' x H'' e hi y => by
    obtain ⟨rfl, y⟩ := y
    exact ⟨Same.refl _, y xs (Same.tupL e h)⟩
theorem src_range {lo : Int} {n : Nat} : Src (Itr lo n) H1 n (fun i x _ => x = .int (lo + i)) where
  go := fun i H' e hi => hi
  stop := fun H' e => Nat.le_refl _
  yld := fun i H' x H'' e hi y => by
    obtain ⟨rfl, y⟩ := y
    exact ⟨Same.refl _, y⟩
theorem src_zipL {a b : Addr} {xs ys : List V} (h : SqL K H1 a xs) (h' : SqL K H1 b ys) (hl : xs.length = ys.length) : Src (Itz K a b) H1 xs.length (fun i x H' => ∃ T u v, x = .ref T ∧ H' T = some (.tup [u, v]) ∧ xs[i]? = some u ∧ ys[i]? = some v) where
  go := fun i H' e hi => ⟨xs, ys, xs[i], ys[i], e.seq h, e.seq h', by simp [hi], by simp [show i < ys.length by omega]⟩
  stop := fun H' e => ⟨xs, ys, e.seq h, e.seq h', .inl (Nat.le_refl _)⟩
  yld := fun i H' x H'' e hi y => by
    obtain ⟨T, u, v, rfl, hT, rfl, f1, f2⟩ := y
    exact ⟨same_new hT _, T, u, v, rfl, upd_same, f1 xs (e.seq h), f2 ys (e.seq h')⟩
theorem src_zipT {a b : Addr} {xs ys : List V} (h : SqT K H1 a xs) (h' : SqT K H1 b ys) (hl : xs.length = ys.length) : Src (RZ.ItzT K a b) H1 xs.length (fun i x H' => ∃ T u v, x = .ref T ∧ H' T = some (.tup [u, v]) ∧ xs[i]? = some u ∧ ys[i]? = some v) where
  go := fun i H' e hi => ⟨xs, ys, xs[i], ys[i], Same.tupL e h, Same.tupL e h', by simp [hi], by simp [show i < ys.length by omega]⟩
  stop := fun H' e => ⟨xs, ys, Same.tupL e h, Same.tupL e h', .inl (Nat.le_refl _)⟩
  yld := fun i H' x H'' e hi y => by
    obtain ⟨T, u, v, rfl, hT, rfl, f1, f2⟩ := y
    exact ⟨same_new hT _, T, u, v, rfl, upd_same, f1 xs (Same.tupL e h), f2 ys (Same.tupL e h')⟩
theorem src_enumL {a : Addr} {xs : List V} (h : SqL K H1 a xs) : Src (Ite K a) H1 xs.length (fun i x H' => ∃ T v, x = .ref T ∧ H' T = some (.tup [.int (i : Nat), v]) ∧ xs[i]? = some v) where
  go := fun i H' e hi => ⟨xs, xs[i], e.seq h, by simp [hi]⟩
  stop := fun H' e => ⟨xs, e.seq h, Nat.le_refl _⟩
  yld := fun i H' x H'' e hi y => by
    obtain ⟨T, v, rfl, hT, rfl, f⟩ := y
    exact ⟨same_new hT _, T, v, rfl, upd_same, f xs (e.seq h)⟩
theorem src_enumT {a : Addr} {xs : List V} (h : SqT K H1 a xs) : Src (XR.IteT K a) H1 xs.length (fun i x H' => ∃ T v, x = .ref T ∧ H' T = some (.tup [.int (i : Nat), v]) ∧ xs[i]? = some v) where
  go := fun i H' e hi => ⟨xs, xs[i], Same.tupL e h, by simp [hi]⟩
  stop := fun H' e => ⟨xs, Same.tupL e h, Nat.le_refl _⟩
  yld := fun i H' x H'' e hi y => by
    obtain ⟨T, v, rfl, hT, rfl, f⟩ := y
    exact ⟨same_new hT _, T, v, rfl, upd_same, f xs (Same.tupL e h)⟩
theorem src_keys {d : Addr} {o : Obj} {kvs : List (Key × V)} (h : H1 d = some (.frz o (.dK kvs))) : Src (Itk d o kvs) H1 kvs.length (fun i x _ => ∃ k v, kvs[i]? = some (k, v) ∧ x = kV k) where
  go := fun i H' e hi => ⟨e _ _ h, hi⟩
  stop := fun H' e => ⟨e _ _ h, Nat.le_refl _⟩
  yld := fun i H' x H'' e hi y => by
    obtain ⟨rfl, y⟩ := y
    exact ⟨Same.refl _, y⟩
theorem src_enumK {d : Addr} {o : Obj} {kvs : List (Key × V)} (h : H1 d = some (.frz o (.dK kvs))) : Src (XR.IteK d o kvs) H1 kvs.length (fun i x H' => ∃ T k u, x = .ref T ∧ kvs[i]? = some (k, u) ∧ H' T = some (.tup [.int (i : Nat), kV k])) where
  go := fun i H' e hi => ⟨e _ _ h, hi⟩
  stop := fun H' e => ⟨e _ _ h, Nat.le_refl _⟩
  yld := fun i H' x H'' e hi y => by
    obtain ⟨T, k, u, rfl, hT, hk, rfl⟩ := y
    exact ⟨same_new hT _, T, k, u, rfl, hk, upd_same⟩
end
def LcR (J : It) (H1 : Hp) (g : TG) (tt : TT) (te : TE) (vs : List Nat) (σ : L2.St) (Q : VK) : Prop :=
    ∀ D, H1 D = none → ∃ W : Nat → Nat → Hp → Prop, (∃ m, W 0 m (upd H1 D (.lst []))) ∧ ∀ i m H, W i m H →
      (J.stop i H ∧ Q (.ref D) H) ∨ (J.go i H ∧ ∃ Nx : Hp → Prop, (∀ H', Nx H' → ∃ m', m' < m ∧ W (i + 1) m' H') ∧ ∀ x H', J.yld i H x H' → g x (wipe σ vs) H' fun σ2 H2 => wipe σ2 vs = wipe σ vs ∧ tt σ2 H2 fun b H3 =>
        if b = true then te σ2 H3 fun y H4 => ∃ acc, H4 D = some (.lst acc) ∧ acc.length < sizeLine ∧ Nx (upd H4 D (.lst (acc ++ [y]))) else Nx H3)
theorem rd_lc {wi : TI} {g : TG} {tt : TT} {te : TE} {vs : List Nat} {σ : L2.St} {H : Hp} {Q : VK} (h : wi σ H fun J H1 => LcR J H1 g tt te vs σ Q) : tLc wi g tt te vs σ H Q := h
/-- a list comprehension whose elements are data; nothing that stood changes -/
theorem lcp {K : PySem.W.Frag} {J : It} {H1 : Hp} {n : Nat} {R : Nat → V → Hp → Prop} {g : TG} {tt : TT} {te : TE} {vs : List Nat} {σ : L2.St} {Q : VK} {N : Addr → Prop} (hN : Tr N H1) (S : Src J H1 n R) (hn : n ≤ 100000) (keep : Nat → Bool) (ds : Nat → PyData)
    (step : ∀ (i : Nat) (x : V) (H' : Hp) (N' : Addr → Prop) (Q2 : VK) (Q3 : Hp → Prop), i < n → Same H1 H' → R i x H' → Tr N' H' → Same (hide N H1) (hide N' H') →
      (∀ y H4, Same H' H4 → keep i = true → Dp K (hide N' H4) y (ds i) → Q2 y H4) → (∀ H4, Same H' H4 → keep i = false → Q3 H4) →
      g x (wipe σ vs) H' fun σ2 H2 => wipe σ2 vs = wipe σ vs ∧ tt σ2 H2 fun b H3 => if b = true then te σ2 H3 Q2 else Q3 H3)
    (fin : ∀ D H2 ys, H1 D = none → Same H1 H2 → H2 D = some (.lst ys) → DpAll K (hide N H2) ys (((List.range n).filter keep).map ds) → Q (.ref D) H2) :
    LcR J H1 g tt te vs σ Q := by
  intro D hD
  let I : Nat → Hp → Prop := fun i H => Same H1 H ∧ ∃ ys, H D = some (.lst ys) ∧ ys.length ≤ i ∧ DpAll K (hide (plus N D) H) ys (((List.range i).filter keep).map ds)
  refine ⟨fun i m H => m = n - i ∧ i ≤ n ∧ I i H, ⟨n, rfl, Nat.zero_le _, same_new hD _, [], upd_same, Nat.le_refl _, .nil⟩, ?_⟩
  rintro i m H ⟨rfl, hi, e, ys, hy, hl, da⟩
  by_cases hlt : i < n
  · refine .inr ⟨S.go i H e hlt, I (i + 1), fun H' h => ⟨n - (i + 1), by omega, rfl, hlt, h⟩, fun x H' y => ?_⟩
    obtain ⟨e', r⟩ := S.yld i H x H' e hlt y
    have e1 : Same H1 H' := e.trans e'
    have hD' : H' D = some (.lst ys) := e' _ _ hy
    have tr : Tr (plus N D) H' := fun a z => by
      rcases z with rfl | z
      · rw [hD']; exact fun q => nomatch q
      · exact (hN.same e1) a z
    refine step i x H' (plus N D) _ _ hlt e1 r tr (plus_same hD e1) (fun y H4 e4 hk hd => ⟨ys, e4 _ _ hD', ?_, ?_⟩) (fun H4 e4 hk => ?_)
    · exact Nat.lt_of_le_of_lt (Nat.le_trans hl (Nat.le_trans (Nat.le_of_lt hlt) hn)) (by decide)
    · refine ⟨same_upd hD (e1.trans e4) _, ys ++ [y], upd_same, by rw [List.length_append]; exact Nat.succ_le_succ hl, ?_⟩
      have ek : ((List.range (i + 1)).filter keep).map ds = ((List.range i).filter keep).map ds ++ [ds i] := by
        rw [List.range_succ, List.filter_append, List.map_append]
        simp [hk]
      rw [ek]
      exact DpAll.app (DpAll.same (fun a o q => plus_upd a o (hide_mono (e'.trans e4) a o q)) da) (.cons (Dp.same plus_upd hd) .nil)
    · have ek : ((List.range (i + 1)).filter keep).map ds = ((List.range i).filter keep).map ds := by
        rw [List.range_succ, List.filter_append, List.map_append]
        simp [hk]
      refine ⟨e1.trans e4, ys, e4 _ _ hD', Nat.le_succ_of_le hl, ?_⟩
      rw [ek]
      exact DpAll.same (hide_mono (e'.trans e4)) da
  · have ei : i = n := by omega
    subst ei
    exact .inl ⟨S.stop H e, fin D H ys hD e hy (DpAll.same plus_down da)⟩
end DB

-- text: GBase
set_option Elab.async false
set_option linter.all false
set_option maxRecDepth 100000
set_option maxHeartbeats 4000000
/-! what the walks of all laws share -/
namespace GB
open PySem PySem.Spec PyProof.Rows L2 DB
section
variable {P : Program} {w : World} {K : PySem.W.Frag} {mg : Str → Option Value} {base : Heap}
variable {t : TT} {u v z : TS} {D : Ends} {σ : L2.St} {H : Hp}
/-- a def of the top that can be called: what it promises at most k calls deep -/
structure Callee (P : Program) (w : World) (K : PySem.W.Frag) (mg : Str → Option Value) (base : Heap) (k : Nat) (x : Str) (ps : List Str) (sp : Sp) : Prop where
  ex : ∃ (f : Addr) (fd : FuncData), FnOk P w K mg base CX0 k f fd ps sp ∧ Binds K fd ps [] ∧ PySem.W.keepIn K (.ref f) = true ∧ mg x = some (.ref f)
/-- a def of the top as it stands -/
structure Def (K : PySem.W.Frag) (mg : Str → Option Value) (x : Str) (st : Stmt) (ps : List Str) : Prop where
  ex : ∃ (f : Addr) (fd : FuncData), Fun K x x st f fd ∧ Binds K fd ps [] ∧ mg x = some (.ref f)
theorem Callee.mono {j k : Nat} {x : Str} {ps : List Str} {sp : Sp} (C : Callee P w K mg base j x ps sp) (h : j ≤ k) : Callee P w K mg base k x ps sp := by
  obtain ⟨f, fd, a, b, c, d⟩ := C.ex
  exact ⟨f, fd, a.mono h, b, c, d⟩
theorem pe_own {X : Cx} {k : Nat} {x : Str} {ps : List Str} {sp : Sp} {e : Expr} {es : List Expr} {t : TA} {p pos : Pos} (C : Callee X.prog X.w X.K X.mg X.base k x ps sp) (hr : Room k X.A) (hg : Gl X x) (ha : PA X (e :: es) t) (hd : (x == ("__debug__" : Str)) = false := by decide)
    (he : starEach (e :: es) X.env = (false, eval e X.env) :: starEach es X.env := by rfl) (hpl : (backTo pos (starEach es X.env)).any (·.1) = false := by rfl) :
    PE X (.Call (.Name x p) (e :: es) [] pos) (tCall sp [] E0 t) := by
  obtain ⟨f, fd, F, b, kp, m⟩ := C.ex
  exact pe_call F hr hg m kp b .nil pass0 ha hd he hpl
def TT1 (t : TT) (σ : L2.St) (H : Hp) (b : Bool) : Prop := ∀ Q : Bool → Hp → Prop, (∀ H', Same H H' → Q b H') → t σ H Q
theorem if_t (b : Bool) (h : TT1 t σ H b) (h1 : b = true → ∀ H', Same H H' → u D σ H') (h2 : b = false → ∀ H', Same H H' → v D σ H') : tIfS t u v D σ H := by
  refine h _ fun H' e => ?_
  cases b with
  | true => rw [if_pos rfl]; exact h1 rfl H' e
  | false => rw [if_neg Bool.false_ne_true]; exact h2 rfl H' e
theorem q_if (b : Bool) (h : TT1 t σ H b) (h1 : b = true → ∀ H', Same H H' → u { D with nx := z D } σ H') (h2 : b = false → ∀ H', Same H H' → v { D with nx := z D } σ H') : tSeq (tIfS t u v) z D σ H := if_t (D := { D with nx := z D }) b h h1 h2
/-- an if without else -/
theorem q_when (b : Bool) (h : TT1 t σ H b) (h1 : b = true → ∀ H', Same H H' → u { D with nx := z D } σ H') (h2 : b = false → ∀ H', Same H H' → z D σ H') : tSeq (tIfS t u tNext) z D σ H := if_t (D := { D with nx := z D }) b h h1 h2
theorem ite_b {b : Bool} {A B : Prop} (h1 : b = true → A) (h2 : b = false → B) : if b = true then A else B := by
  cases b with
  | true => rw [if_pos rfl]; exact h1 rfl
  | false => rw [if_neg Bool.false_ne_true]; exact h2 rfl
def tns : List String := ["NoneType", "bool", "int", "str", "list", "tuple", "dict"]
theorem tn_mem (d : PyData) : tn d ∈ tns := by cases d <;> simp [tn, tns]
theorem kb_lt (d : PyData) : kitBs (tn d) ["list", "tuple"] = some (tn d == "list" || tn d == "tuple") := (by decide +kernel : ∀ t ∈ tns, kitBs t ["list", "tuple"] = some (t == "list" || t == "tuple")) _ (tn_mem d)
theorem kb_iltd (d : PyData) : kitBs (tn d) ["int", "list", "tuple", "dict"] = some (tn d == "int" || tn d == "bool" || tn d == "list" || tn d == "tuple" || tn d == "dict") := (by decide +kernel : ∀ t ∈ tns, kitBs t ["int", "list", "tuple", "dict"] = some (t == "int" || t == "bool" || t == "list" || t == "tuple" || t == "dict")) _ (tn_mem d)
theorem kb_str (d : PyData) : kitB (tn d) "str" = some (tn d == "str") := (by decide +kernel : ∀ t ∈ tns, kitB t "str" = some (t == "str")) _ (tn_mem d)
theorem kb_tuple (d : PyData) : kitB (tn d) "tuple" = some (tn d == "tuple") := (by decide +kernel : ∀ t ∈ tns, kitB t "tuple" = some (t == "tuple")) _ (tn_mem d)
theorem kb_list (d : PyData) : kitB (tn d) "list" = some (tn d == "list") := (by decide +kernel : ∀ t ∈ tns, kitB t "list" = some (t == "list")) _ (tn_mem d)
theorem kb_dict (d : PyData) : kitB (tn d) "dict" = some (tn d == "dict") := (by decide +kernel : ∀ t ∈ tns, kitB t "dict" = some (t == "dict")) _ (tn_mem d)
theorem kb_bool (d : PyData) : kitB (tn d) "bool" = some (tn d == "bool") := (by decide +kernel : ∀ t ∈ tns, kitB t "bool" = some (t == "bool")) _ (tn_mem d)
theorem kb_int (d : PyData) : kitB (tn d) "int" = some (tn d == "int" || tn d == "bool") := (by decide +kernel : ∀ t ∈ tns, kitB t "int" = some (t == "int" || t == "bool")) _ (tn_mem d)
theorem src_str {H1 : Hp} {x : Str} : Src (Its x) H1 x.cps.toList.length (fun i v _ => ∃ c, x.cps.toList[i]? = some c ∧ v = .str ⟨#[c]⟩) where
  go := fun i H' e hi => by
    have hi' : i < x.cps.size := by simpa using hi
    exact hi'
  stop := fun H' e => by show x.cps.size ≤ _; simp
  yld := fun i H' v H'' e hi y => by
    obtain ⟨rfl, c, hc, rfl⟩ := y
    exact ⟨Same.refl _, c, by simpa using hc, rfl⟩
theorem cut1 (x : V) (xs : List V) : cutV (x :: xs) (some 1) none = xs := by
  have e : HT.sIx (x :: xs).length 0 (some 1) = 1 := by
    have := HT.sIx_nat (x :: xs).length 0 1
    rw [show ((1 : Nat) : Int) = 1 from rfl] at this
    rw [this, List.length_cons]
    omega
  unfold cutV
  rw [e, HT.sIx_none, List.length_cons]
  show List.take (xs.length + 1 - 1) xs = xs
  rw [Nat.add_sub_cancel, List.take_length]
theorem cut1_ne (x : V) (xs : List V) : ¬ (HT.sIx (x :: xs).length 0 (some 1) = 0 ∧ HT.sIx (x :: xs).length (x :: xs).length none = (x :: xs).length) := by
  have e : HT.sIx (x :: xs).length 0 (some 1) = 1 := by
    have := HT.sIx_nat (x :: xs).length 0 1
    rw [show ((1 : Nat) : Int) = 1 from rfl] at this
    rw [this, List.length_cons]
    omega
  intro h
  rw [e] at h
  exact absurd h.1 (by decide)
theorem map_range {α β : Type} (l : List α) (f : α → β) (d : α) : ((List.range l.length).filter (fun _ => true)).map (fun i => f (l.getD i d)) = l.map f := by
  rw [List.filter_eq_self.mpr (fun _ _ => rfl)]
  apply List.ext_getElem
  · simp
  · intro i h1 h2
    simp at h1
    simp [List.getD, h1]
def ForR (J : It) (H1 : Hp) (g : TG) (tb : TS) (D : Ends) (σ : L2.St) : Prop :=
  ∃ W : Nat → Nat → L2.St → Hp → Prop, (∃ m, W 0 m σ H1) ∧ ∀ i m σ H, W i m σ H →
    (J.stop i H ∧ D.nx σ H) ∨ (J.go i H ∧ ∃ N : L2.St → Hp → Prop, (∀ σ' H', N σ' H' → ∃ m', m' < m ∧ W (i + 1) m' σ' H') ∧ ∀ x H', J.yld i H x H' → g x σ H' fun σ2 H2 => tb { D with nx := N, ct := N, bk := D.nx } σ2 H2)
theorem rd_for {wi : TI} {g : TG} {tb : TS} {D : Ends} {σ : L2.St} {H : Hp} (h : wi σ H fun J H1 => ForR J H1 g tb D σ) : tFor wi g tb D σ H := h
theorem forp {J : It} {H1 : Hp} {n : Nat} {R : Nat → V → Hp → Prop} {g : TG} {tb : TS} {D : Ends} {σ : L2.St} (S : Src J H1 n R) (Pv : Nat → L2.St → Hp → Prop) (h0 : Pv 0 σ H1) (hs : ∀ i σ H, Pv i σ H → Same H1 H)
    (step : ∀ (i : Nat) (x : V) (σ' : L2.St) (H' H'' : Hp), i < n → Pv i σ' H' → Same H' H'' → R i x H'' → g x σ' H'' fun σ2 H2 => tb { D with nx := Pv (i + 1), ct := Pv (i + 1), bk := D.nx } σ2 H2) (fin : ∀ σ' H', Pv n σ' H' → D.nx σ' H') : ForR J H1 g tb D σ := by
  refine ⟨fun i m σ H => m = n - i ∧ i ≤ n ∧ Pv i σ H, ⟨n, rfl, Nat.zero_le _, h0⟩, ?_⟩
  rintro i m σ H ⟨rfl, hi, p⟩
  by_cases hlt : i < n
  · refine .inr ⟨S.go i H (hs i σ H p) hlt, Pv (i + 1), fun σ' H' q => ⟨n - (i + 1), by omega, rfl, hlt, q⟩, fun x H' y => ?_⟩
    obtain ⟨e, r⟩ := S.yld i H x H' (hs i σ H p) hlt y
    exact step i x σ H H' hlt p e r
  · have e : i = n := by omega
    subst e
    exact .inl ⟨S.stop H (hs i σ H p), fin σ H p⟩
structure SrcP (J : It) (St : Hp → Prop) (n : Nat) (R : Nat → V → Hp → Hp → Prop) : Prop where
  go : ∀ i H', St H' → i < n → J.go i H'
  stop : ∀ H', St H' → J.stop n H'
  yld : ∀ i H' x H'', St H' → i < n → J.yld i H' x H'' → Same H' H'' ∧ R i x H' H''
theorem sp_tup {a : Addr} {xs : List V} : SrcP (Itt K a) (fun H => SqT K H a xs) xs.length (fun i x Hb H' => xs[i]? = some x ∧ H' = Hb) where
  go := fun i H' h hi => ⟨xs, xs[i], h, by simp [hi]⟩
  stop := fun H' h => ⟨xs, h, Nat.le_refl _⟩
  yld := fun i H' x H'' h hi y => by
    obtain ⟨rfl, y⟩ := y
    exact ⟨Same.refl _, y xs h, rfl⟩
theorem sp_list {a : Addr} {xs : List V} : SrcP (Itl K a) (fun H => SqL K H a xs) xs.length (fun i x Hb H' => xs[i]? = some x ∧ H' = Hb) where
  go := fun i H' h hi => ⟨xs, xs[i], h, by simp [hi]⟩
  stop := fun H' h => ⟨xs, h, Nat.le_refl _⟩
  yld := fun i H' x H'' h hi y => by
    obtain ⟨rfl, y⟩ := y
    exact ⟨Same.refl _, y xs h, rfl⟩
theorem sp_range {lo : Int} {n : Nat} : SrcP (Itr lo n) (fun _ => True) n (fun i x Hb H' => x = .int (lo + i) ∧ H' = Hb) where
  go := fun i H' _ hi => hi
  stop := fun H' _ => Nat.le_refl _
  yld := fun i H' x H'' _ hi y => by
    obtain ⟨rfl, y⟩ := y
    exact ⟨Same.refl _, y, rfl⟩
theorem sp_zipL {a b : Addr} {xs ys : List V} (hl : xs.length = ys.length) : SrcP (Itz K a b) (fun H => SqL K H a xs ∧ SqL K H b ys) xs.length (fun i x Hb H' => ∃ T u v, Hb T = none ∧ x = .ref T ∧ H' = upd Hb T (.tup [u, v]) ∧ xs[i]? = some u ∧ ys[i]? = some v) where
  go := fun i H' e hi => ⟨xs, ys, xs[i], ys[i], e.1, e.2, by simp [hi], by simp [show i < ys.length by omega]⟩
  stop := fun H' e => ⟨xs, ys, e.1, e.2, .inl (Nat.le_refl _)⟩
  yld := fun i H' x H'' e hi y => by
    obtain ⟨T, u, v, rfl, hT, rfl, f1, f2⟩ := y
    exact ⟨same_new hT _, T, u, v, hT, rfl, rfl, f1 xs e.1, f2 ys e.2⟩
theorem sp_zipT {a b : Addr} {xs ys : List V} (hl : xs.length = ys.length) : SrcP (RZ.ItzT K a b) (fun H => SqT K H a xs ∧ SqT K H b ys) xs.length (fun i x Hb H' => ∃ T u v, Hb T = none ∧ x = .ref T ∧ H' = upd Hb T (.tup [u, v]) ∧ xs[i]? = some u ∧ ys[i]? = some v) where
  go := fun i H' e hi => ⟨xs, ys, xs[i], ys[i], e.1, e.2, by simp [hi], by simp [show i < ys.length by omega]⟩
  stop := fun H' e => ⟨xs, ys, e.1, e.2, .inl (Nat.le_refl _)⟩
  yld := fun i H' x H'' e hi y => by
    obtain ⟨T, u, v, rfl, hT, rfl, f1, f2⟩ := y
    exact ⟨same_new hT _, T, u, v, hT, rfl, rfl, f1 xs e.1, f2 ys e.2⟩
theorem sp_enumL {a : Addr} {xs : List V} : SrcP (Ite K a) (fun H => SqL K H a xs) xs.length (fun i x Hb H' => ∃ T v, Hb T = none ∧ x = .ref T ∧ H' = upd Hb T (.tup [.int (i : Nat), v]) ∧ xs[i]? = some v) where
  go := fun i H' e hi => ⟨xs, xs[i], e, by simp [hi]⟩
  stop := fun H' e => ⟨xs, e, Nat.le_refl _⟩
  yld := fun i H' x H'' e hi y => by
    obtain ⟨T, v, rfl, hT, rfl, f⟩ := y
    exact ⟨same_new hT _, T, v, hT, rfl, rfl, f xs e⟩
theorem sp_enumT {a : Addr} {xs : List V} : SrcP (XR.IteT K a) (fun H => SqT K H a xs) xs.length (fun i x Hb H' => ∃ T v, Hb T = none ∧ x = .ref T ∧ H' = upd Hb T (.tup [.int (i : Nat), v]) ∧ xs[i]? = some v) where
  go := fun i H' e hi => ⟨xs, xs[i], e, by simp [hi]⟩
  stop := fun H' e => ⟨xs, e, Nat.le_refl _⟩
  yld := fun i H' x H'' e hi y => by
    obtain ⟨T, v, rfl, hT, rfl, f⟩ := y
    exact ⟨same_new hT _, T, v, hT, rfl, rfl, f xs e⟩
theorem sp_enumK {d : Addr} {o : Obj} {kvs : List (Key × V)} : SrcP (XR.IteK d o kvs) (fun H => H d = some (.frz o (.dK kvs))) kvs.length (fun i x Hb H' => ∃ T k u, Hb T = none ∧ x = .ref T ∧ kvs[i]? = some (k, u) ∧ H' = upd Hb T (.tup [.int (i : Nat), kV k])) where
  go := fun i H' e hi => ⟨e, hi⟩
  stop := fun H' e => ⟨e, Nat.le_refl _⟩
  yld := fun i H' x H'' e hi y => by
    obtain ⟨T, k, u, rfl, hT, hk, rfl⟩ := y
    exact ⟨same_new hT _, T, k, u, hT, rfl, hk, rfl⟩
/-- for -/
theorem forq {J : It} {St : Hp → Prop} {H1 : Hp} {n : Nat} {R : Nat → V → Hp → Hp → Prop} {g : TG} {tb : TS} {D : Ends} {σ : L2.St} (S : SrcP J St n R) (Pv : Nat → L2.St → Hp → Prop) (h0 : Pv 0 σ H1) (hs : ∀ i σ H, Pv i σ H → St H)
    (step : ∀ (i : Nat) (x : V) (σ' : L2.St) (H' H'' : Hp), i < n → Pv i σ' H' → Same H' H'' → R i x H' H'' → g x σ' H'' fun σ2 H2 => tb { D with nx := Pv (i + 1), ct := Pv (i + 1), bk := D.nx } σ2 H2) (fin : ∀ σ' H', Pv n σ' H' → D.nx σ' H') : ForR J H1 g tb D σ := by
  refine ⟨fun i m σ H => m = n - i ∧ i ≤ n ∧ Pv i σ H, ⟨n, rfl, Nat.zero_le _, h0⟩, ?_⟩
  rintro i m σ H ⟨rfl, hi, p⟩
  by_cases hlt : i < n
  · refine .inr ⟨S.go i H (hs i σ H p) hlt, Pv (i + 1), fun σ' H' q => ⟨n - (i + 1), by omega, rfl, hlt, q⟩, fun x H' y => ?_⟩
    obtain ⟨e, r⟩ := S.yld i H x H' (hs i σ H p) hlt y
    exact step i x σ H H' hlt p e r
  · have e : i = n := by omega
    subst e
    exact .inl ⟨S.stop H (hs i σ H p), fin σ H p⟩
/-- [.. for .. in .. if ..], with what its parts do to the heap -/
theorem lcq {J : It} {St : Hp → Prop} {H1 : Hp} {n : Nat} {R : Nat → V → Hp → Hp → Prop} {g : TG} {tt : TT} {te : TE} {vs : List Nat} {σ : L2.St} {Q : VK} (S : SrcP J St n R) (hn : n ≤ 100000) (Pv : Addr → Nat → List V → Hp → Prop)
    (h0 : ∀ D, H1 D = none → Pv D 0 [] (upd H1 D (.lst []))) (hs : ∀ D i ys H, Pv D i ys H → St H)
    (step : ∀ (D : Addr) (i : Nat) (x : V) (ys : List V) (H' H'' : Hp) (Q2 : VK) (Q3 : Hp → Prop), i < n → H1 D = none → Pv D i ys H' → H' D = some (.lst ys) → ys.length ≤ i → Same H' H'' → R i x H' H'' →
      (∀ y H4, H4 D = some (.lst ys) → Pv D (i + 1) (ys ++ [y]) (upd H4 D (.lst (ys ++ [y]))) → Q2 y H4) → (∀ H4, H4 D = some (.lst ys) → Pv D (i + 1) ys H4 → Q3 H4) →
      g x (wipe σ vs) H'' fun σ2 H2 => wipe σ2 vs = wipe σ vs ∧ tt σ2 H2 fun b H3 => if b = true then te σ2 H3 Q2 else Q3 H3)
    (fin : ∀ D H2 ys, H1 D = none → Pv D n ys H2 → H2 D = some (.lst ys) → Q (.ref D) H2) : LcR J H1 g tt te vs σ Q := by
  intro D hD
  refine ⟨fun i m H => m = n - i ∧ i ≤ n ∧ ∃ ys, H D = some (.lst ys) ∧ ys.length ≤ i ∧ Pv D i ys H, ⟨n, rfl, Nat.zero_le _, [], upd_same, Nat.le_refl _, h0 D hD⟩, ?_⟩
  rintro i m H ⟨rfl, hi, ys, hy, hl, p⟩
  by_cases hlt : i < n
  · refine .inr ⟨S.go i H (hs D i ys H p) hlt, fun H => ∃ ys, H D = some (.lst ys) ∧ ys.length ≤ i + 1 ∧ Pv D (i + 1) ys H, fun H' h => ⟨n - (i + 1), by omega, rfl, hlt, h⟩, fun x H' y => ?_⟩
    obtain ⟨e', r⟩ := S.yld i H x H' (hs D i ys H p) hlt y
    exact step D i x ys H H' _ _ hlt hD p hy hl e' r (fun y H4 q1 q2 => ⟨ys, q1, Nat.lt_of_le_of_lt (Nat.le_trans hl (Nat.le_trans (Nat.le_of_lt hlt) hn)) (by decide), ys ++ [y], upd_same, by rw [List.length_append]; exact Nat.succ_le_succ hl, q2⟩) (fun H4 q1 q2 => ⟨ys, q1, Nat.le_succ_of_le hl, q2⟩)
  · have ei : i = n := by omega
    subst ei
    exact .inl ⟨S.stop H (hs D i ys H p), fin D H ys hD p hy⟩
theorem paired_imp {α β : Type} {R S : α → β → Prop} (h : ∀ a b, R a b → S a b) : ∀ {xs : List α} {ys : List β}, Paired R xs ys → Paired S xs ys
  | _, _, .nil => .nil
  | _, _, .cons q r => .cons (h _ _ q) (paired_imp h r)
theorem paired_app {α β : Type} {R : α → β → Prop} : ∀ {xs us : List α} {ys vs : List β}, Paired R xs ys → Paired R us vs → Paired R (xs ++ us) (ys ++ vs)
  | _, _, _, _, .nil, b => b
  | _, _, _, _, .cons q r, b => .cons q (paired_app r b)
theorem paired_len {α β : Type} {R : α → β → Prop} : ∀ {xs : List α} {ys : List β}, Paired R xs ys → xs.length = ys.length
  | _, _, .nil => rfl
  | _, _, .cons _ r => by rw [List.length_cons, List.length_cons, paired_len r]
theorem paired_get {α β : Type} {R : α → β → Prop} : ∀ {xs : List α} {ys : List β} {i : Nat} {x : α}, Paired R xs ys → xs[i]? = some x → ∃ y, ys[i]? = some y ∧ R x y
  | _, _, i, x, .nil, h => by simp at h
  | _, _, 0, x, .cons q r, h => by
    have e := Option.some.inj (show some _ = some x from h)
    subst e
    exact ⟨_, rfl, q⟩
  | _, _, i + 1, x, .cons q r, h => paired_get (i := i) r (by simpa using h)
theorem paired_get' {α β : Type} {R : α → β → Prop} : ∀ {xs : List α} {ys : List β} {i : Nat} {y : β}, Paired R xs ys → ys[i]? = some y → ∃ x, xs[i]? = some x ∧ R x y
  | _, _, i, x, .nil, h => by simp at h
  | _, _, 0, x, .cons q r, h => by
    have e := Option.some.inj (show some _ = some x from h)
    subst e
    exact ⟨_, rfl, q⟩
  | _, _, i + 1, x, .cons q r, h => paired_get' (i := i) r (by simpa using h)
theorem paired_map {α β γ : Type} {R : α → γ → Prop} {f : β → γ} : ∀ {xs : List α} {ys : List β}, Paired (fun a b => R a (f b)) xs ys → Paired R xs (ys.map f)
  | _, _, .nil => .nil
  | _, _, .cons q r => .cons q (paired_map r)
/-- a list comprehension whose elements are data; nothing that stood changes -/
theorem lcr {J : It} {H1 : Hp} {n : Nat} {R : Nat → V → Hp → Prop} {g : TG} {tt : TT} {te : TE} {vs : List Nat} {σ : L2.St} {Q : VK} {N : Addr → Prop} (hN : Tr N H1) (S : Src J H1 n R) (hn : n ≤ 100000) (keep : Nat → Bool) (E : Nat → Hp → V → Prop) (mono : ∀ i h h' v, Same h h' → E i h v → E i h' v)
    (step : ∀ (i : Nat) (x : V) (H' : Hp) (N' : Addr → Prop) (Q2 : VK) (Q3 : Hp → Prop), i < n → Same H1 H' → R i x H' → Tr N' H' → Same (hide N H1) (hide N' H') →
      (∀ y H4, Same H' H4 → keep i = true → E i (hide N' H4) y → Q2 y H4) → (∀ H4, Same H' H4 → keep i = false → Q3 H4) →
      g x (wipe σ vs) H' fun σ2 H2 => wipe σ2 vs = wipe σ vs ∧ tt σ2 H2 fun b H3 => if b = true then te σ2 H3 Q2 else Q3 H3)
    (fin : ∀ D H2 ys, H1 D = none → Same H1 H2 → H2 D = some (.lst ys) → Paired (fun v i => E i (hide N H2) v) ys ((List.range n).filter keep) → Q (.ref D) H2) :
    LcR J H1 g tt te vs σ Q := by
  intro D hD
  let I : Nat → Hp → Prop := fun i H => Same H1 H ∧ ∃ ys, H D = some (.lst ys) ∧ ys.length ≤ i ∧ Paired (fun v i => E i (hide (plus N D) H) v) ys ((List.range i).filter keep)
  refine ⟨fun i m H => m = n - i ∧ i ≤ n ∧ I i H, ⟨n, rfl, Nat.zero_le _, same_new hD _, [], upd_same, Nat.le_refl _, .nil⟩, ?_⟩
  rintro i m H ⟨rfl, hi, e, ys, hy, hl, da⟩
  by_cases hlt : i < n
  · refine .inr ⟨S.go i H e hlt, I (i + 1), fun H' h => ⟨n - (i + 1), by omega, rfl, hlt, h⟩, fun x H' y => ?_⟩
    obtain ⟨e', r⟩ := S.yld i H x H' e hlt y
    have e1 : Same H1 H' := e.trans e'
    have hD' : H' D = some (.lst ys) := e' _ _ hy
    have tr : Tr (plus N D) H' := fun a z => by
      rcases z with rfl | z
      · rw [hD']; exact fun q => nomatch q
      · exact (hN.same e1) a z
    refine step i x H' (plus N D) _ _ hlt e1 r tr (plus_same hD e1) (fun y H4 e4 hk hd => ⟨ys, e4 _ _ hD', ?_, ?_⟩) (fun H4 e4 hk => ?_)
    · exact Nat.lt_of_le_of_lt (Nat.le_trans hl (Nat.le_trans (Nat.le_of_lt hlt) hn)) (by decide)
    · refine ⟨same_upd hD (e1.trans e4) _, ys ++ [y], upd_same, by rw [List.length_append]; exact Nat.succ_le_succ hl, ?_⟩
      have ek : (List.range (i + 1)).filter keep = (List.range i).filter keep ++ [i] := by
        rw [List.range_succ, List.filter_append]
        simp [hk]
      rw [ek]
      exact paired_app (paired_imp (fun v i h => mono _ _ _ _ (fun a o q => plus_upd a o (hide_mono (e'.trans e4) a o q)) h) da) (.cons (mono _ _ _ _ plus_upd hd) .nil)
    · have ek : (List.range (i + 1)).filter keep = (List.range i).filter keep := by
        rw [List.range_succ, List.filter_append]
        simp [hk]
      refine ⟨e1.trans e4, ys, e4 _ _ hD', Nat.le_succ_of_le hl, ?_⟩
      rw [ek]
      exact paired_imp (fun v i h => mono _ _ _ _ (hide_mono (e'.trans e4)) h) da
  · have ei : i = n := by omega
    subst ei
    exact .inl ⟨S.stop H e, fin D H ys hD e hy (paired_imp (fun v i h => mono _ _ _ _ plus_down h) da)⟩
structure Src2 (J : It) (H1 : Hp) (n : Nat) (R : Nat → V → Hp → Hp → Prop) : Prop where
  go : ∀ i H', Same H1 H' → i < n → J.go i H'
  stop : ∀ H', Same H1 H' → J.stop n H'
  yld : ∀ i H' x H'', Same H1 H' → i < n → J.yld i H' x H'' → Same H' H'' ∧ R i x H' H''
theorem src_zipT2 {K : PySem.W.Frag} {H1 : Hp} {a b : Addr} {xs ys : List V} (h : SqT K H1 a xs) (h' : SqT K H1 b ys) (hl : xs.length = ys.length) : Src2 (RZ.ItzT K a b) H1 xs.length (fun i x Hb H' => ∃ T u v, Hb T = none ∧ x = .ref T ∧ H' T = some (.tup [u, v]) ∧ xs[i]? = some u ∧ ys[i]? = some v) where
  go := fun i H' e hi => ⟨xs, ys, xs[i], ys[i], Same.tupL e h, Same.tupL e h', by simp [hi], by simp [show i < ys.length by omega]⟩
  stop := fun H' e => ⟨xs, ys, Same.tupL e h, Same.tupL e h', .inl (Nat.le_refl _)⟩
  yld := fun i H' x H'' e hi y => by
    obtain ⟨T, u, v, rfl, hT, rfl, f1, f2⟩ := y
    exact ⟨same_new hT _, T, u, v, hT, rfl, upd_same, f1 xs (Same.tupL e h), f2 ys (Same.tupL e h')⟩
/-- a list comprehension whose elements are data; nothing that stood changes -/
theorem lcp2 {K : PySem.W.Frag} {J : It} {H1 : Hp} {n : Nat} {R : Nat → V → Hp → Hp → Prop} {g : TG} {tt : TT} {te : TE} {vs : List Nat} {σ : L2.St} {Q : VK} {N : Addr → Prop} (hN : Tr N H1) (S : Src2 J H1 n R) (hn : n ≤ 100000) (keep : Nat → Bool) (ds : Nat → PyData)
    (step : ∀ (i : Nat) (x : V) (Hb H' : Hp) (N' : Addr → Prop) (Q2 : VK) (Q3 : Hp → Prop), i < n → Same H1 H' → R i x Hb H' → Tr N' Hb → Same (hide N H1) (hide N' H') →
      (∀ y H4, Same H' H4 → keep i = true → Dp K (hide N' H4) y (ds i) → Q2 y H4) → (∀ H4, Same H' H4 → keep i = false → Q3 H4) →
      g x (wipe σ vs) H' fun σ2 H2 => wipe σ2 vs = wipe σ vs ∧ tt σ2 H2 fun b H3 => if b = true then te σ2 H3 Q2 else Q3 H3)
    (fin : ∀ D H2 ys, H1 D = none → Same H1 H2 → H2 D = some (.lst ys) → DpAll K (hide N H2) ys (((List.range n).filter keep).map ds) → Q (.ref D) H2) :
    LcR J H1 g tt te vs σ Q := by
  intro D hD
  let I : Nat → Hp → Prop := fun i H => Same H1 H ∧ ∃ ys, H D = some (.lst ys) ∧ ys.length ≤ i ∧ DpAll K (hide (plus N D) H) ys (((List.range i).filter keep).map ds)
  refine ⟨fun i m H => m = n - i ∧ i ≤ n ∧ I i H, ⟨n, rfl, Nat.zero_le _, same_new hD _, [], upd_same, Nat.le_refl _, .nil⟩, ?_⟩
  rintro i m H ⟨rfl, hi, e, ys, hy, hl, da⟩
  by_cases hlt : i < n
  · refine .inr ⟨S.go i H e hlt, I (i + 1), fun H' h => ⟨n - (i + 1), by omega, rfl, hlt, h⟩, fun x H' y => ?_⟩
    obtain ⟨e', r⟩ := S.yld i H x H' e hlt y
    have e1 : Same H1 H' := e.trans e'
    have hD' : H' D = some (.lst ys) := e' _ _ hy
    have tr : Tr (plus N D) H := fun a z => by
      rcases z with rfl | z
      · rw [hy]; exact fun q => nomatch q
      · exact (hN.same e) a z
    refine step i x H H' (plus N D) _ _ hlt e1 r tr (plus_same hD e1) (fun y H4 e4 hk hd => ⟨ys, e4 _ _ hD', ?_, ?_⟩) (fun H4 e4 hk => ?_)
    · exact Nat.lt_of_le_of_lt (Nat.le_trans hl (Nat.le_trans (Nat.le_of_lt hlt) hn)) (by decide)
    · refine ⟨same_upd hD (e1.trans e4) _, ys ++ [y], upd_same, by rw [List.length_append]; exact Nat.succ_le_succ hl, ?_⟩
      have ek : ((List.range (i + 1)).filter keep).map ds = ((List.range i).filter keep).map ds ++ [ds i] := by
        rw [List.range_succ, List.filter_append, List.map_append]
        simp [hk]
      rw [ek]
      exact DpAll.app (DpAll.same (fun a o q => plus_upd a o (hide_mono (e'.trans e4) a o q)) da) (.cons (Dp.same plus_upd hd) .nil)
    · have ek : ((List.range (i + 1)).filter keep).map ds = ((List.range i).filter keep).map ds := by
        rw [List.range_succ, List.filter_append, List.map_append]
        simp [hk]
      refine ⟨e1.trans e4, ys, e4 _ _ hD', Nat.le_succ_of_le hl, ?_⟩
      rw [ek]
      exact DpAll.same (hide_mono (e'.trans e4)) da
  · have ei : i = n := by omega
    subst ei
    exact .inl ⟨S.stop H e, fin D H ys hD e hy (DpAll.same plus_down da)⟩
theorem q_seq {u z : TS} {D : Ends} {σ : L2.St} {H : Hp} (Pv : L2.St → Hp → Prop) (h : ∀ N : L2.St → Hp → Prop, (∀ σ' H', Pv σ' H' → N σ' H') → u { D with nx := N } σ H) (h2 : ∀ σ' H', Pv σ' H' → z D σ' H') : tSeq u z D σ H := h (z D) h2
def DcR (J : It) (H1 : Hp) (g : TG) (tt : TT) (tk tv : TE) (vs : List Nat) (σ : L2.St) (Q : VK) : Prop :=
  ∀ D, H1 D = none → ∃ W : Nat → Nat → Hp → Prop, (∃ m, W 0 m (upd H1 D (.dK []))) ∧ ∀ i m H, W i m H →
  (J.stop i H ∧ Q (.ref D) H) ∨ (J.go i H ∧ ∃ Nx : Hp → Prop, (∀ H', Nx H' → ∃ m', m' < m ∧ W (i + 1) m' H') ∧ ∀ x H', J.yld i H x H' → g x (wipe σ vs) H' fun σ2 H2 => wipe σ2 vs = wipe σ vs ∧ tt σ2 H2 fun b H3 =>
    if b = true then tk σ2 H3 fun y H4 => tv σ2 H4 fun z H5 => ∃ kvs k, y = kV k ∧ H5 D = some (.dK kvs) ∧ kvs.length < sizeLine ∧ Nx (upd H5 D (.dK (putK kvs k z))) else Nx H3)
theorem rd_dc {wi : TI} {g : TG} {tt : TT} {tk tv : TE} {vs : List Nat} {σ : L2.St} {H : Hp} {Q : VK} (h : wi σ H fun J H1 => DcR J H1 g tt tk tv vs σ Q) : tDc wi g tt tk tv vs σ H Q := h
theorem dcq {J : It} {St : Hp → Prop} {H1 : Hp} {n : Nat} {R : Nat → V → Hp → Hp → Prop} {g : TG} {tk tv : TE} {vs : List Nat} {σ : L2.St} {Q : VK} (S : SrcP J St n R) (Pv : Addr → Nat → Hp → Prop)
    (h0 : ∀ D, H1 D = none → Pv D 0 (upd H1 D (.dK []))) (hs : ∀ D i H, Pv D i H → St H)
    (step : ∀ (D : Addr) (i : Nat) (x : V) (H' H'' : Hp), i < n → H1 D = none → Pv D i H' → Same H' H'' → R i x H' H'' →
      g x (wipe σ vs) H'' fun σ2 H2 => wipe σ2 vs = wipe σ vs ∧ tk σ2 H2 fun y H4 => tv σ2 H4 fun z H5 => ∃ kvs k, y = kV k ∧ H5 D = some (.dK kvs) ∧ kvs.length < sizeLine ∧ Pv D (i + 1) (upd H5 D (.dK (putK kvs k z))))
    (fin : ∀ D H2, H1 D = none → Pv D n H2 → Q (.ref D) H2) : DcR J H1 g tYes tk tv vs σ Q := by
  intro D hD
  refine ⟨fun i m H => m = n - i ∧ i ≤ n ∧ Pv D i H, ⟨n, rfl, Nat.zero_le _, h0 D hD⟩, ?_⟩
  rintro i m H ⟨rfl, hi, p⟩
  by_cases hlt : i < n
  · refine .inr ⟨S.go i H (hs D i H p) hlt, Pv D (i + 1), fun H' h => ⟨n - (i + 1), by omega, rfl, hlt, h⟩, fun x H' y => ?_⟩
    obtain ⟨e', r⟩ := S.yld i H x H' (hs D i H p) hlt y
    exact step D i x H H' hlt hD p e' r
  · have ei : i = n := by omega
    subst ei
    exact .inl ⟨S.stop H (hs D i H p), fin D H hD p⟩
theorem valV_no {κ : Type} [DecidableEq κ] {kvs : List (κ × V)} {k : κ} (h : ∀ p ∈ kvs, p.1 ≠ k) : valV kvs k = none := by
  unfold valV
  rw [List.find?_eq_none.mpr (fun p hp => by simpa using h p hp)]
  rfl
theorem none_of_none {H H' : Hp} {a : Addr} (e : Same H H') (h : H' a = none) : H a = none := by
  cases q : H a with
  | none => rfl
  | some o => rw [e _ _ q] at h; cases h
theorem g_pair {K : PySem.W.Frag} {i j n : Nat} {T : Addr} {u v : V} {σ : L2.St} {H : Hp} {Q : L2.St → Hp → Prop} (hT : H T = some (.tup [u, v])) (hn : n = 2) (q : Q ((σ.set i (some u)).set j (some v)) H) : gTup K n (gCons (gName i) (gCons (gName j) gNil)) (.ref T) σ H Q := by
  subst hn
  exact ⟨T, [u, v], rfl, .inl (.inl hT), rfl, u, [v], rfl, v, [], rfl, rfl, q⟩
theorem take_snoc {α : Type} {l : List α} {i : Nat} {x : α} (h : l[i]? = some x) : l.take (i + 1) = l.take i ++ [x] := by rw [List.take_succ, h]; rfl
def one (p : Addr) : Addr → Prop := fun a => a = p
theorem hide_one {p a : Addr} {H : Hp} (h : a ≠ p) : hide (one p) H a = H a := hide_off h
theorem same_one {p : Addr} {H H' : Hp} (h : H p = none) (e : Same H H') : Same H (hide (one p) H') := fun a o q => by
  have : a ≠ p := fun z => by subst z; rw [h] at q; cases q
  rw [hide_one this]
  exact e a o q
theorem hide_in {N : Addr → Prop} {p : Addr} {H : Hp} {o : HO} (h : N p) : hide N (upd H p o) = hide N H := funext fun a => by
  by_cases q : N a
  · rw [hide_on q, hide_on q]
  · have : a ≠ p := fun z => by subst z; exact q h
    rw [hide_off q, hide_off q, upd_ne this]
theorem g_pairS {K : PySem.W.Frag} {i j n : Nat} {T : Addr} {u v : V} {σ : L2.St} {H : Hp} {Q : L2.St → Hp → Prop} (hT : SqT K H T [u, v]) (hn : n = 2) (q : Q ((σ.set i (some u)).set j (some v)) H) : gTup K n (gCons (gName i) (gCons (gName j) gNil)) (.ref T) σ H Q := by
  subst hn
  exact ⟨T, [u, v], rfl, hT, rfl, u, [v], rfl, v, [], rfl, rfl, q⟩
theorem pe_never {X : Cx} {e : Expr} : PE X e (fun _ _ _ => False) := ⟨fun _ _ _ _ _ _ h => h.elim⟩
theorem le_sum_of_mem : ∀ {l : List Nat} {x : Nat}, x ∈ l → x ≤ l.sum
  | [], _, h => by cases h
  | y :: l, x, h => by
    rw [List.sum_cons]
    rcases List.mem_cons.mp h with rfl | h
    · omega
    · have := le_sum_of_mem h
      omega
theorem paired_of_get {α β : Type} {R : α → β → Prop} : ∀ {xs : List α} {ys : List β}, xs.length = ys.length → (∀ (i : Nat) (v : α) (d : β), xs[i]? = some v → ys[i]? = some d → R v d) → Paired R xs ys
  | [], [], _, _ => .nil
  | v :: vs, d :: ds, hl, h => .cons (h 0 v d rfl rfl) (paired_of_get (by simpa using hl) fun i v' d' a b => h (i + 1) v' d' (by simpa using a) (by simpa using b))
  | [], _ :: _, hl, _ => by simp at hl
  | _ :: _, [], hl, _ => by simp at hl
theorem plus_new {N : Addr → Prop} {p : Addr} {H H' : Hp} (h : H p = none) (e : Same H H') : Same (hide N H) (hide (plus N p) H') := plus_same h e
theorem plus_tr {N : Addr → Prop} {p : Addr} {H : Hp} {o : HO} (t : Tr N H) (h : H p = some o) : Tr (plus N p) H := fun a q => by
  rcases q with rfl | q
  · rw [h]; exact fun z => nomatch z
  · exact t a q
theorem plus_in {N : Addr → Prop} {p : Addr} {H : Hp} {o : HO} : hide (plus N p) (upd H p o) = hide (plus N p) H := hide_in (.inl rfl)
theorem tr_upd {N : Addr → Prop} {H : Hp} {p : Addr} {o : HO} (t : Tr N H) : Tr N (upd H p o) := fun a q => by
  by_cases e : a = p
  · subst e; rw [upd_same]; exact fun z => nomatch z
  · rw [upd_ne e]; exact t a q
theorem nodup_inr : ∀ {l : List Str}, l.Nodup → (l.map (Sum.inr : Str → Key)).Nodup
  | [], _ => List.nodup_nil
  | x :: l, h => by
    rw [List.nodup_cons] at h
    rw [List.map_cons, List.nodup_cons]
    refine ⟨fun q => ?_, nodup_inr h.2⟩
    obtain ⟨y, hy, e⟩ := List.mem_map.mp q
    cases (Sum.inr.inj e)
    exact h.1 hy
theorem mergeK_new : ∀ {kvs acc : List (Key × V)}, (acc ++ kvs |>.map (·.1)).Nodup → mergeK acc kvs = acc ++ kvs
  | [], acc, _ => (List.append_nil acc).symm
  | kv :: kvs, acc, h => by
    show mergeK (putK acc kv.1 kv.2) kvs = _
    have hno : valV acc kv.1 = none := valV_no fun p hp e => by
      rw [List.map_append, List.map_cons] at h
      have := (List.nodup_append.mp h).2.2 p.1 (List.mem_map.mpr ⟨p, hp, rfl⟩) kv.1 (List.mem_cons_self ..)
      exact this e
    rw [putK_new _ hno]
    have e : acc ++ kv :: kvs = (acc ++ [kv]) ++ kvs := by simp
    rw [e] at h ⊢
    exact mergeK_new h
def rLenQ (K : PySem.W.Frag) : List V → Hp → VK → Prop := fun xs H Q => ∃ p ys, xs = [V.ref p] ∧ (SqL K H p ys ∨ SqT K H p ys) ∧ Q (.int (ys.length : Nat)) H
theorem pe_bmK {X : Cx} {K : PySem.W.Frag} {o e : Expr} {es : List Expr} {to : TE} {t : TA} {name : Str} {apos cpos : Pos} {T id : String} {r : V → List V → Hp → VK → Prop} (hK : X.K = K) (pa : PlainAttrs T) (slot : Slot T name id) (hty : typeOf (.builtin id) = pure (.type "method_descriptor")) (hm : MtR X id r) (ho : PE X o to) (ha : PA X (e :: es) t)
    (hbase : attributeBase o name X.env (eval o X.env) = eval o X.env := by rfl)
    (hfew : ((backTo cpos (starEach (e :: es) X.env)).all (fun x => !x.1) && (backToKw cpos (keywordEach [] X.env)).all (fun x => x.1.isSome)
      && decide ((e :: es).length + ([] : List Keyword).length + (if ([] : List Keyword).isEmpty then 0 else 1) < 30)) = true := by rfl)
    (hline : (apos.endLine == cpos.line) = true := by rfl) (hs : starEach (e :: es) X.env = (false, eval e X.env) :: starEach es X.env := by rfl) (hplain : (backTo cpos (starEach es X.env)).any (·.1) = false := by rfl) :
    PE X (.Call (.Attribute o name apos) (e :: es) [] cpos) (tBM K T r to t) := by
  subst hK
  exact pe_bm pa slot hty hm ho ha hbase hfew hline hs hplain
theorem whq {α : Type} {c : TT} {tb : TS} {D : Ends} {σ : L2.St} {H : Hp} (Pv : α → L2.St → Hp → Prop) (μ : α → Nat) (bt : α → Bool) (a0 : α) (h0 : Pv a0 σ H) (ht : ∀ a σ H, Pv a σ H → TT1 c σ H (bt a))
    (hs : ∀ a σ H H1, Pv a σ H → bt a = true → Same H H1 → tb { D with nx := fun σ' H' => ∃ a', μ a' < μ a ∧ Pv a' σ' H', ct := fun σ' H' => ∃ a', μ a' < μ a ∧ Pv a' σ' H', bk := D.nx } σ H1) (fin : ∀ a σ H H1, Pv a σ H → bt a = false → Same H H1 → D.nx σ H1) : tWhile c tb D σ H := by
  refine ⟨fun m σ H => ∃ a, m = μ a ∧ Pv a σ H, ⟨_, a0, rfl, h0⟩, ?_⟩
  rintro m σ H ⟨a, rfl, p⟩
  refine ht a σ H p _ fun H1 e => ?_
  cases hb : bt a with
  | true =>
    rw [if_pos rfl]
    exact ⟨_, fun σ' H' ⟨a', l, p'⟩ => ⟨_, l, a', rfl, p'⟩, hs a σ H H1 p hb e⟩
  | false =>
    rw [if_neg Bool.false_ne_true]
    exact fin a σ H H1 p hb e
def two (s c : Addr) : Addr → Prop := fun a => a = s ∨ a = c
/-- all but N's objects is kept -/
def Kept (N : Addr → Prop) (H H' : Hp) : Prop := Same (hide N H) (hide N H')
theorem Kept.sub {N M : Addr → Prop} {H H' : Hp} (k : Kept N H H') (h : ∀ a, N a → M a) : Kept M H H' := fun a o q => by
  obtain ⟨n, q⟩ := hide_some q
  have n' : ¬ N a := fun z => n (h a z)
  rw [hide_off n]
  have := k a o (by rw [hide_off n']; exact q)
  rw [hide_off n'] at this
  exact this
theorem Kept.trans {N : Addr → Prop} {H H' H'' : Hp} (k : Kept N H H') (l : Kept N H' H'') : Kept N H H'' := Same.trans k l
theorem Kept.refl {N : Addr → Prop} (H : Hp) : Kept N H H := Same.refl _
theorem Kept.of {N : Addr → Prop} {H H' : Hp} (e : Same H H') : Kept N H H' := hide_mono e
theorem Kept.at {N : Addr → Prop} {H H' : Hp} (k : Kept N H H') {a : Addr} {o : HO} (n : ¬ N a) (h : H a = some o) : H' a = some o := by
  have := k a o (by rw [hide_off n]; exact h)
  rw [hide_off n] at this
  exact this
theorem Kept.upd {N : Addr → Prop} {H H' : Hp} (k : Kept N H H') {a : Addr} {o : HO} (n : N a) : Kept N H (upd H' a o) := by
  unfold Kept
  rw [hide_in n]
  exact k
structure StrAt (s c : Addr) (H : Hp) (cells : List Int) (cur mix : Int) (cnt : Nat) : Prop where
  hs : H s = some (.lst [.ref c, .int cur, .int (cnt : Nat), .int mix])
  hc : H c = some (.lst (cells.map V.int))
  h0 : 0 ≤ cur
  m0 : 0 ≤ mix
  m1 : mix < 2147483647
theorem StrAt.ne {s c : Addr} {H : Hp} {cells : List Int} {cur mix : Int} {cnt : Nat} (h : StrAt s c H cells cur mix cnt) : c ≠ s := fun q => by
  have h1 := h.hs
  have h2 := h.hc
  subst q
  rw [h1] at h2
  have := HO.lst.inj (Option.some.inj h2)
  cases cells with
  | nil => cases this
  | cons x r => cases this
theorem StrAt.same {s c : Addr} {H H' : Hp} {cells : List Int} {cur mix : Int} {cnt : Nat} (h : StrAt s c H cells cur mix cnt) (e : Same H H') : StrAt s c H' cells cur mix cnt := ⟨e _ _ h.hs, e _ _ h.hc, h.h0, h.m0, h.m1⟩
/-- the stream, at most n draws made -/
def Stm (s c : Addr) (H : Hp) (n : Nat) : Prop := ∃ cells cur mix cnt, StrAt s c H cells cur mix cnt ∧ cnt ≤ n
theorem Stm.same {s c : Addr} {H H' : Hp} {n : Nat} (h : Stm s c H n) (e : Same H H') : Stm s c H' n := by
  obtain ⟨a, b, d, f, h1, h2⟩ := h
  exact ⟨a, b, d, f, h1.same e, h2⟩
theorem Stm.mono {s c : Addr} {H : Hp} {n m : Nat} (h : Stm s c H n) (l : n ≤ m) : Stm s c H m := by
  obtain ⟨a, b, d, f, h1, h2⟩ := h
  exact ⟨a, b, d, f, h1, by omega⟩
theorem Stm.ne {s c : Addr} {H : Hp} {n : Nat} (h : Stm s c H n) : c ≠ s := by
  obtain ⟨a, b, d, f, h1, h2⟩ := h
  exact h1.ne
theorem Stm.tr {s c : Addr} {H : Hp} {n : Nat} (h : Stm s c H n) : Tr (two s c) H := fun a q => by
  obtain ⟨_, b, d, f, h1, h2⟩ := h
  rcases q with rfl | rfl
  · rw [h1.hs]; exact fun z => nomatch z
  · rw [h1.hc]; exact fun z => nomatch z
theorem ints_shaped (ns : List Int) : SeqAt.shaped (.list (ns.map PyData.int)) = true := by
  have h1 : ∀ ns : List Int, PyData.canLayAll0 (ns.map PyData.int) = true := fun ns => by
    induction ns with
    | nil => rfl
    | cons n r ih => simp [PyData.canLayAll0, PyData.canLay0, ih]
  have h2 : ∀ ns : List Int, PyData.depthAll (ns.map PyData.int) ≤ 1 := fun ns => by
    induction ns with
    | nil => simp [PyData.depthAll]
    | cons n r ih => simp [PyData.depthAll, PyData.depth, ih]
  show (PyData.canLay0 (.list (ns.map PyData.int)) && decide (PyData.depth (.list (ns.map PyData.int)) ≤ 64)) = true
  have h3 := h2 ns
  have e1 : PyData.canLay0 (.list (ns.map PyData.int)) = true := by simp [PyData.canLay0, h1]
  rw [e1, Bool.true_and]
  refine decide_eq_true ?_
  simp [PyData.depth]
  omega
theorem pos_lit {j : Int} (h : 0 < j) : (0 : Int) < j := h
theorem pop0 (n : Nat) : seqIndex? 0 (n + 1) = some 0 := by
  simp [seqIndex?]
theorem seqIx {r : Int} {n : Nat} (h0 : 0 ≤ r) (h1 : r < (n : Nat)) : seqIndex? r n = some r.toNat := by
  unfold seqIndex?
  dsimp only
  rw [if_neg (show ¬ r < 0 by omega), if_pos (by simp [h0, h1])]
theorem erase_perm {α : Type} : ∀ {l : List α} {i : Nat} (h : i < l.length), (l[i] :: l.eraseIdx i).Perm l
  | x :: l, 0, _ => List.Perm.refl _
  | x :: l, i + 1, h => by
    rw [List.eraseIdx_cons_succ]
    exact (List.Perm.swap _ _ _).trans (List.Perm.cons _ (erase_perm (l := l) (i := i) (by simpa using h)))
theorem list_at {K : PySem.W.Frag} {h : Hp} {v : V} {ds : List PyData} (d : Dp K h v (.list ds)) : ∃ (a : Addr) (xs : List V), v = .ref a ∧ SqL K h a xs ∧ DpAll K h xs ds := by
  cases d with
  | lst h a => exact ⟨_, _, rfl, h, a⟩
theorem nodup_snoc {α : Type} {k : α} : ∀ {l : List α}, l.Nodup → ¬ k ∈ l → (l ++ [k]).Nodup
  | [], _, _ => by simp
  | a :: l, h, hk => by
    rw [List.nodup_cons] at h
    rw [List.cons_append, List.nodup_cons]
    refine ⟨fun hm => ?_, nodup_snoc h.2 fun q => hk (List.mem_cons_of_mem _ q)⟩
    rcases List.mem_append.mp hm with q | q
    · exact h.1 q
    · exact hk (List.mem_cons.mpr (Or.inl (List.mem_singleton.mp q).symm))
theorem nodup_le {α : Type} [DecidableEq α] : ∀ {l m : List α}, l.Nodup → (∀ x ∈ l, x ∈ m) → l.length ≤ m.length
  | [], _, _, _ => Nat.zero_le _
  | x :: l, m, h, s => by
    rw [List.nodup_cons] at h
    have hx : x ∈ m := s x (List.mem_cons_self ..)
    have := nodup_le (l := l) (m := m.erase x) h.2 fun y hy => by
      have ne : y ≠ x := fun q => h.1 (by rw [← q]; exact hy)
      exact (List.mem_erase_of_ne ne).mpr (s y (List.mem_cons_of_mem _ hy))
    rw [List.length_erase_of_mem hx] at this
    have hp : 0 < m.length := List.length_pos_of_mem hx
    rw [List.length_cons]
    omega
theorem DpAll.take' {K : PySem.W.Frag} {h : Hp} : ∀ {ys : List V} {ds : List PyData} (n : Nat), DpAll K h ys ds → DpAll K h (ys.take n) (ds.take n)
  | _, _, 0, _ => .nil
  | _, _, n + 1, .nil => .nil
  | _, _, n + 1, .cons q a => .cons q (DpAll.take' n a)
theorem filter_range {α : Type} (l : List α) (f : α → Bool) (d : α) : ((List.range l.length).filter fun i => f (l.getD i d)).length = (l.filter f).length := by
  have h : l = (List.range l.length).map fun i => l.getD i d := by
    apply List.ext_getElem
    · simp
    · intro i h1 h2
      simp [List.getD, h1]
  conv => rhs; rw [h, List.filter_map, List.length_map]
  rfl
theorem filter_range_map {α β : Type} (l : List α) (f : α → Bool) (g : α → β) (d : α) : ((List.range l.length).filter fun i => f (l.getD i d)).map (fun i => g (l.getD i d)) = (l.filter f).map g := by
  have h : l = (List.range l.length).map fun i => l.getD i d := by
    apply List.ext_getElem
    · simp
    · intro i h1 h2
      simp [List.getD, h1]
  conv => rhs; rw [h, List.filter_map, List.map_map]
  rfl
theorem paired_perm {α β : Type} {R : α → β → Prop} {xs ys : List α} (h : ys.Perm xs) : ∀ {zs : List β}, Paired R xs zs → ∃ zs', zs'.Perm zs ∧ Paired R ys zs' := by
  induction h with
  | nil => intro zs p; exact ⟨zs, List.Perm.refl _, p⟩
  | cons x h ih =>
    intro zs p
    cases p with
    | cons q r =>
      obtain ⟨zs', h1, h2⟩ := ih r
      exact ⟨_ :: zs', h1.cons _, .cons q h2⟩
  | swap x y l =>
    intro zs p
    cases p with
    | cons q r =>
      cases r with
      | cons q2 r => exact ⟨_, List.Perm.swap _ _ _, .cons q2 (.cons q r)⟩
  | trans h1 h2 ih1 ih2 =>
    intro zs p
    obtain ⟨z2, a, b⟩ := ih2 p
    obtain ⟨z1, c, d⟩ := ih1 b
    exact ⟨z1, c.trans a, d⟩
theorem strs_perm {xs : List V} {ns : List Str} (h : xs.Perm (ns.map V.str)) : ∃ ms : List Str, xs = ms.map V.str ∧ ms.Perm ns := by
  have p0 : ∀ ns : List Str, Paired (fun v (n : Str) => v = V.str n) (ns.map V.str) ns := fun ns => by
    induction ns with
    | nil => exact .nil
    | cons n r ih => exact .cons rfl ih
  obtain ⟨ms, h1, h2⟩ := paired_perm h (p0 ns)
  refine ⟨ms, ?_, h1⟩
  clear h h1 p0
  induction h2 with
  | nil => rfl
  | cons q r ih => rw [q, ih]; rfl
theorem dp_rev {K : PySem.W.Frag} {h : Hp} : ∀ {ys : List V} {ds : List PyData}, DpAll K h ys ds → DpAll K h ys.reverse ds.reverse
  | _, _, .nil => .nil
  | _, _, .cons q a => by
    rw [List.reverse_cons, List.reverse_cons]
    exact DpAll.app (dp_rev a) (.cons q .nil)
theorem strs_shaped (ns : List Str) (ok : ∀ n ∈ ns, PyData.strOk n = true) : SeqAt.shaped (.list (ns.map PyData.str)) = true := by
  have h1 : ∀ ns : List Str, (∀ n ∈ ns, PyData.strOk n = true) → PyData.canLayAll0 (ns.map PyData.str) = true := fun ns => by
    induction ns with
    | nil => intro _; rfl
    | cons n r ih => intro h; simp [PyData.canLayAll0, PyData.canLay0, ih fun x hx => h x (List.mem_cons_of_mem _ hx), h n (List.mem_cons_self ..)]
  have h2 : ∀ ns : List Str, PyData.depthAll (ns.map PyData.str) ≤ 1 := fun ns => by
    induction ns with
    | nil => simp [PyData.depthAll]
    | cons n r ih => simp [PyData.depthAll, PyData.depth, ih]
  show (PyData.canLay0 (.list (ns.map PyData.str)) && decide (PyData.depth (.list (ns.map PyData.str)) ≤ 64)) = true
  have h3 := h2 ns
  have e1 : PyData.canLay0 (.list (ns.map PyData.str)) = true := by simp [PyData.canLay0, h1 ns ok]
  rw [e1, Bool.true_and]
  refine decide_eq_true ?_
  simp [PyData.depth]
  omega
theorem eqv_strs (ns : List Str) : PyData.eqv (.list (ns.map PyData.str)) (.list (ns.map PyData.str)) = true := by
  have : ∀ ns : List Str, PyData.eqvAll (ns.map PyData.str) (ns.map PyData.str) = true := fun ns => by
    induction ns with
    | nil => simp [PyData.eqvAll]
    | cons n r ih => simp [PyData.eqvAll, PyData.eqv, ih]
  simp [PyData.eqv, this]
theorem eqv_ints (ns : List Int) : PyData.eqv (.list (ns.map PyData.int)) (.list (ns.map PyData.int)) = true := by
  have : ∀ ns : List Int, PyData.eqvAll (ns.map PyData.int) (ns.map PyData.int) = true := fun ns => by
    induction ns with
    | nil => simp [PyData.eqvAll]
    | cons n r ih => simp [PyData.eqvAll, PyData.eqv, ih]
  simp [PyData.eqv, this]
theorem Stm.kept {M : Addr → Prop} {s c : Addr} {H H' : Hp} {n : Nat} (h : Stm s c H n) (k : Kept M H H') (ns : ¬ M s) (nc : ¬ M c) : Stm s c H' n := by
  obtain ⟨a, b, d, e, h1, h2⟩ := h
  exact ⟨a, b, d, e, ⟨k.at ns h1.hs, k.at nc h1.hc, h1.h0, h1.m0, h1.m1⟩, h2⟩
def rDictP (K : PySem.W.Frag) : List V → Hp → VK → Prop := fun xs H Q => ∃ (a : Addr) (ps : List Addr) (kvs : List (Key × V)), xs = [.ref a] ∧ SqL K H a (ps.map V.ref) ∧ Paired (fun p kv => SqT K H p [kV kv.1, kv.2]) ps kvs ∧
    ∀ p, H p = none → Q (.ref p) (upd H p (.dK (mergeK [] kvs)))
theorem rep_flat (n : Nat) (x : Str) : (List.replicate n [V.str x]).flatten = (List.replicate n x).map V.str := by
  induction n with
  | zero => rfl
  | succ n ih =>
    rw [List.replicate_succ, List.replicate_succ, List.flatten_cons, ih]
    rfl
theorem cutj (xs : List V) {j : Nat} (h : j ≤ xs.length) : cutV xs none (some (j : Nat)) = xs.take j := by
  unfold cutV
  rw [HT.sIx_none, HT.sIx_nat, List.drop_zero, Nat.sub_zero, List.take_eq_take_iff]
  omega
theorem atI_last {xs : List V} {v : V} (h : 0 < xs.length) (hv : xs[xs.length - 1]? = some v) : atI xs (-1) = some v := by
  unfold atI ixN
  rw [if_neg (by decide), if_pos (by omega)]
  show xs[((-1 : Int) + (xs.length : Nat)).toNat]? = some v
  rw [show ((-1 : Int) + (xs.length : Nat)).toNat = xs.length - 1 by omega]
  exact hv
end
end GB

-- text: GLayer
set_option Elab.async false
set_option linter.all false
set_option maxRecDepth 100000
set_option maxHeartbeats 4000000
/-! the layer's def once more, with the guards known (repr asks for them): turned from the library's own end -/
namespace GL
open PySem PySem.Spec PyProof.Rows L2 DB GB LamX
structure RoomG (k : Nat) (A : Around) : Prop where
  rm : Room k A
  gd : A.guards = some []
theorem RoomG.mono {j k : Nat} {A : Around} (r : RoomG k A) (h : j ≤ k) : RoomG j A := ⟨r.rm.mono h, r.gd⟩
structure FnG (P : Program) (w : World) (K : PySem.W.Frag) (mg : Str → Option Value) (base : Heap) (CX : CXT) (k : Nat) (f : Addr) (fd : FuncData) (ps : List Str) (sp : Sp) : Prop where
  len : ∀ vs H Q E, sp vs H Q E → vs.length = ps.length
  run : ∀ (A : Around) (outer : List Env) (s : Shared) (H : Hp) (args : Args) (us : List Value) (vs : List V) (Q : VK) (E : XK), RoomG k A → Env0 P w K mg base A outer s H → BindsTo s fd args (ps.zip us) → Vals vs us → sp vs H Q E →
    codeAny (model P w) A (.call (.ref f) args) (CR CX outer P w H s Q E) s
theorem FnG.mono {P : Program} {w : World} {K : PySem.W.Frag} {mg : Str → Option Value} {base : Heap} {CX : CXT} {j k : Nat} {f : Addr} {fd : FuncData} {ps : List Str} {sp : Sp} (F : FnG P w K mg base CX j f fd ps sp) (h : j ≤ k) : FnG P w K mg base CX k f fd ps sp :=
  ⟨F.len, fun A outer s H args us vs Q E hr => F.run A outer s H args us vs Q E (hr.mono h)⟩
/-- a def by its body, the guards known -/
theorem okG {P : Program} {w : World} {K : PySem.W.Frag} {mg : Str → Option Value} {base : Heap} {x qual : Str} {st : Stmt} {f : Addr} {fd : FuncData} {N ps : List Str} {k : Nat} {sp : Sp} (F : Fun K x qual st f fd) (S : FnScope N ps (defScope st)) (len : ∀ vs H Q E, sp vs H Q E → vs.length = ps.length)
    (hbody : ∀ (cdv : Value) (A : Around) (outer : List Env) (s : Shared) (H : Hp) (vs : List V) (Q : VK) (E : XK), RoomG k (A.deeper (envOfC qual (defScope st) s.heap.objs.size f cdv)) → sp vs H Q E →
      ∃ t, PSs (cxOf CX0 P w K mg base N qual (defScope st) f cdv A outer s H E).nox (defBody st) t ∧ t { nx := fun _ H' => Q .non H', rt := Q } (start N vs) H) : FnG P w K mg base CX0 (k + 1) f fd ps sp := by
  obtain ⟨oc, od, kV, doc, pm, an, cdv, ct, osl, rfl, lk, hcd⟩ := F.ex
  refine ⟨len, fun A outer s H args us vs Q E hr e0 hb r hsp => ?_⟩
  refine run_ofS lk hcd S hr.rm e0 hb r (len _ _ _ _ hsp) fun hr' => ?_
  obtain ⟨t, h, q⟩ := hbody cdv A outer s H vs Q E ⟨hr', hr.gd⟩ hsp
  exact ⟨t, h.nox, q⟩
/-- f(e, ..) of such a def -/
theorem pe_callG {X : Cx} {CX : CXT} {k : Nat} {f : Addr} {fd : FuncData} {ps : List Str} {sp : Sp} {dvs : List V} {ds : List Value} {E : XK} {x : Str} {p pos : Pos} {e : Expr} {es : List Expr} {t : TA} (F : FnG X.prog X.w X.K X.mg X.base CX k f fd ps sp) (hr : RoomG k X.A) (hg : Gl X x) (hm : X.mg x = some (.ref f)) (hk : PySem.W.keepIn X.K (.ref f) = true) (hb : Binds X.K fd ps ds) (hd : Vals dvs ds) (hx : Passes CX X E)
    (ha : PA X (e :: es) t) (hdb : (x == ("__debug__" : Str)) = false := by decide) (he : starEach (e :: es) X.env = (false, eval e X.env) :: starEach es X.env := by rfl) (hpl : (backTo pos (starEach es X.env)).any (·.1) = false := by rfl) :
    PE X (.Call (.Name x p) (e :: es) [] pos) (tCall sp dvs E t) := by
  refine ⟨fun pins s σ H Q I h => ?_⟩
  refine wpAny_Call_Name_kw (ld_glob I hg hm ?_ hdb)
  refine PySem.W.callWith_K (h₀ := X.base) I.ok.mod.kin hk (thn (ha.run pos pins s σ H _ I h) fun us s1 ⟨vs, H1, I1, r, q⟩ => ⟨I1.kIn, ?_⟩) he hpl
  have r2 : Vals (vs ++ dvs) (us ++ ds) := r.append hd
  have hl : (us ++ ds).length = ps.length := by rw [← r2.length]; exact F.len _ _ _ _ q
  refine wpAny_call (codeAny_mono (F.run X.A X.stack s1 H1 ⟨us, []⟩ (us ++ ds) (vs ++ dvs) Q E hr I1.env0 (hb s1 us I1.kIn hl) r2 q) fun r s' hq => ?_)
  cases r with
  | error e => exact hx pins σ H1 s1 e s' I1 hq
  | ok fl =>
    cases fl with
    | ret u => exact I1.after hq
    | next => exact False.elim hq
    | brk => exact False.elim hq
    | cont => exact False.elim hq
theorem law_callG {P : Program} {w : World} {K : PySem.W.Frag} {mg mb : Str → Option Value} {CX : CXT} {k : Nat} {fa a : Addr} {cs : List (Addr × Addr)} {fd : FuncData} {x : Str} {sp : Sp} {s₁ : Shared} {vs : List Value} {ns : List Int}
    (KX : K.In s₁.heap) (hns : s₁.heap.Ns mainGlobals mg) (hb : s₁.heap.Ns builtinsNs mb) (hbb : ∀ x : Str, x ≠ "__name__" → mb x = bootBuiltins x) (hlim : s₁.heap.NoLimit) (hg : s₁.gens = #[])
    (hT : ∀ p ∈ cs, s₁.heap.get? p.2 = some { cls := .none, data := .fields #[] }) (nT : ∀ p ∈ cs, K.lookup p.2 = none) (C : ∀ p ∈ cs, PySem.W.CodeHd s₁.heap p.1 p.2)
    (hbm : ∃ (bm : Addr) (ob : Obj), mg "__builtins__" = some (.ref bm) ∧ bm ≠ builtinsNs ∧ s₁.heap.get? bm = some ob ∧ ob.cls = .type "module" ∧ ob.dict = some builtinsNs ∧ ob.data = .plain)
    (ha : s₁.heap.get? a = some { cls := .type "list", data := .seq vs.toArray }) (hi : IntsAre vs ns) (hl : ns.length ≤ sizeLine) (hr : RoomG k callerA)
    (F : ∀ base : Heap, K.In base → base.Ns mainGlobals mg → (∀ p ∈ cs, TabB base mg p.1 p.2) → FnG P w K mg base CX k fa fd [x] sp) (hbind : ∀ (s : Shared) (u : Value), BindsTo s fd ⟨[u], []⟩ [(x, u)])
    (hsp : ∀ H : Hp, (∀ p ∈ cs, H p.2 = some (.tbl #[])) → SqL K H a (ns.map V.int) → sp [.ref a] H (fun v _ => v = .bl true) fun _ _ _ => False)
    (hCX : ∀ H e s', CX [] H s₁ (fun _ _ _ => False) e s' → False) :
    codeAny (model P w) callerA (.call (.ref fa) ⟨[.ref a], []⟩) (fun r s' => r = .ok (.ret (.bool true)) ∧ OldK s₁.heap s'.heap ∧ s'.os = s₁.os ∧ AllBare s'.gens) s₁ := by
  have rv := vals_ints hi
  have lenV := hi.length
  have isT : ∀ b : Addr, b ∈ cs.map (·.2) → s₁.heap.get? b = some { cls := .none, data := .fields #[] } := fun b hb => by
    obtain ⟨p, hp, e⟩ := List.mem_map.mp hb
    rw [← e]
    exact hT p hp
  have aT : a ∉ cs.map (·.2) := fun z => by
    have q := isT a z
    rw [ha] at q
    have z' : Data.seq vs.toArray _ = Data.fields #[] := congrArg Obj.data (Option.some.inj q)
    cases z'
  have memT : ∀ p ∈ cs, p.2 ∈ cs.map (·.2) := fun p hp => List.mem_map.mpr ⟨p, hp, rfl⟩
  -- from an abstract heap in which nothing but the script and the tables may be tracked
  have core : ∀ H : Hp, (∀ p ∈ cs, H p.2 = some (.tbl #[])) → (∀ b, H b = none ∨ b ∈ cs.map (·.2) ∨ ∃ o xs, H b = some (.frz o (.lst xs))) → SqL K H a (ns.map V.int) → HOk P w H s₁.heap → (∀ b, H b ≠ none → b = a ∨ b ∈ cs.map (·.2)) → (H a ≠ none → K.lookup a = none) →
      codeAny (model P w) callerA (.call (.ref fa) ⟨[.ref a], []⟩) (fun r s' => r = .ok (.ret (.bool true)) ∧ OldK s₁.heap s'.heap ∧ s'.os = s₁.os ∧ AllBare s'.gens) s₁ := by
    intro H hH hO hS hok hA hK
    have base_of : ∀ {b : Addr} {o : Obj}, s₁.heap.get? b = some o → H b = none → (hidT s₁.heap H).get? b = some o := fun e n => hidT_get e n
    have noD : ∀ {b : Addr} {o : Obj}, s₁.heap.get? b = some o → (∀ vs n, o.data ≠ .seq vs n) → o.data ≠ .fields #[] → H b = none := fun {b o} e h1 h2 => by
      cases q : H b with
      | none => rfl
      | some u =>
        rcases hA b (by rw [q]; simp) with e' | e'
        · rw [e', ha] at e
          cases e
          exact (h1 _ _ rfl).elim
        · rw [isT b e'] at e
          cases e
          exact (h2 rfl).elim
    have noA : ∀ {b : Addr} {o : Obj} {es : Array DictEntry} {ep : Nat}, s₁.heap.get? b = some o → o.data = .dict es ep → H b = none := fun {b o es ep} e d => by
      refine noD e (fun vs n z => ?_) fun z => ?_
      · rw [d] at z
        cases z
      · rw [d] at z
        cases z
    have nsK : ∀ {b : Addr} {m : Str → Option Value}, s₁.heap.Ns b m → (hidT s₁.heap H).Ns b m := fun {b m} ⟨o, es, ep, e, d, r⟩ => ⟨o, es, ep, base_of e (noA e d), d, r⟩
    have hKb : K.In (hidT s₁.heap H) := fun b o e => base_of (KX b o e) (by
      cases q : H b with
      | none => rfl
      | some u =>
        rcases hA b (by rw [q]; simp) with e' | e'
        · rw [e'] at e q
          rw [hK (by rw [q]; simp)] at e
          cases e
        · obtain ⟨p, hp, ep⟩ := List.mem_map.mp e'
          rw [← ep, nT p hp] at e
          cases e)
    have hM : L2.Mod K mg (hidT s₁.heap H) := ⟨hKb, nsK hns, ⟨mb, nsK hb, hbb⟩, let ⟨mc, h1, h2⟩ := hlim; ⟨mc, nsK h1, h2⟩⟩
    have TB : ∀ p ∈ cs, TabB (hidT s₁.heap H) mg p.1 p.2 := fun p hp => by
      have hTp := hT p hp
      refine ⟨?_, ?_, fun z => ?_⟩
      · obtain ⟨o, us, file, tf, flags, tg, inF, text, tt, e1, r1, r2, r3, r4, r5, r6, r7, r8, hne⟩ := C p hp
        refine ⟨o, us, file, tf, flags, tg, inF, text, tt, base_of e1 (noD e1 (fun vs n z => ?_) fun z => ?_), r1, r2, r3, r4, r5, r6, r7, r8, hne⟩
        · rw [r2] at z
          cases z
        · rw [r2] at z
          cases z
          simp at r3
      · obtain ⟨bm, ob, b1, b2, b3, b4, b5, b6⟩ := hbm
        have nG : bm ≠ mainGlobals := fun q => by
          obtain ⟨o, es, ep, e, hd, _⟩ := hns
          rw [q, e] at b3
          cases b3
          rw [hd] at b6
          cases b6
        have nP : bm ≠ p.2 := fun q => by
          rw [q, hTp] at b3
          cases b3
          cases b6
        refine ⟨bm, ob, b1, b2, nG, nP, base_of b3 (noD b3 (fun vs n z => ?_) fun z => ?_), b4, b5, b6⟩
        · rw [b6] at z
          cases z
        · rw [b6] at z
          cases z
      · obtain ⟨o, es, ep, e, hd, _⟩ := hns
        rw [z, hTp] at e
        cases e
        cases hd
    have e0 : Env0 P w K mg (hidT s₁.heap H) callerA [] s₁ H := ⟨rfl, hM, fun b o e => of_hidT e, Nat.le_of_eq (hidT_size _ _), trivial, fun b hb => absurd (show b ∈ ([] : List Addr) from hb) (by simp), hok, .of_eq hg⟩
    refine codeAny_mono ((F _ hKb (nsK hns) TB).run callerA [] s₁ H ⟨[.ref a], []⟩ [.ref a] [.ref a] _ _ hr e0 (hbind s₁ (.ref a)) (.cons rfl .nil) (hsp H hH hS)) fun r s' h => ?_
    cases r with
    | error e => exact (hCX H e s' h).elim
    | ok fl =>
      cases fl with
      | next => exact False.elim h
      | brk => exact False.elim h
      | cont => exact False.elim h
      | ret u =>
        obtain ⟨v, H', os, bare, un, hok', r', q⟩ := h
        have q' : v = .bl true := q
        subst q'
        obtain rfl : u = Value.bool true := r'
        have key : ∀ b o, b ∉ cs.map (·.2) → s₁.heap.get? b = some o → s'.heap.get? b = some o := fun b o nb e => by
          cases q : H b with
          | none => exact un.keep b o e q (by intro z; exact absurd (show b ∈ ([] : List Addr) from z) (by simp)) (by simp)
          | some u =>
            rcases hO b with z | z | ⟨ob, xs, z⟩
            · rw [q] at z; cases z
            · exact absurd z nb
            · have z2 := un.frzs b ob _ z
              obtain ⟨e1, _⟩ := hok b _ z
              obtain ⟨e2, _⟩ := hok' b _ z2
              rw [e] at e1; cases e1
              exact e2
        have grown : ∀ p ∈ cs, ∃ more : Array Value, s'.heap.get? p.2 = some { cls := .none, data := .fields more } := fun p hp => by
          obtain ⟨more, z⟩ := un.tbls p.2 #[] (hH p hp)
          exact ⟨_, hok' p.2 _ z⟩
        refine ⟨rfl, ⟨fun b o e => ?_, fun b o e => ?_⟩, os, bare⟩
        · by_cases hb : b ∈ cs.map (·.2)
          · obtain ⟨p, hp, ep⟩ := List.mem_map.mp hb
            obtain ⟨more, hm⟩ := grown p hp
            rw [← ep] at e ⊢
            rw [hT p hp] at e
            cases e
            exact .inr (.inl ⟨((C p hp).tab (hT p hp)).isCodeTable, rfl, #[], more, rfl, by rw [Array.empty_append]; exact hm⟩)
          · exact .inl (key b o hb e)
        · by_cases hb : b ∈ cs.map (·.2)
          · obtain ⟨p, hp, ep⟩ := List.mem_map.mp hb
            obtain ⟨more, hm⟩ := grown p hp
            rw [← ep]
            exact ⟨_, hm⟩
          · exact ⟨o, key b o hb e⟩
  cases hk : K.lookup a with
  | some o =>
    have e := KX a o hk
    rw [ha] at e
    cases e
    refine core (fun b => if b ∈ cs.map (·.2) then some (.tbl #[]) else none) (fun p hp => if_pos (memT p hp)) (fun b => ?_) (.inr ⟨_, vs.toArray, _, hk, rfl, rfl, rfl, by rw [List.size_toArray, lenV]; exact hl, by simpa using rv⟩) (fun b u z => ?_) (fun b z => ?_) fun z => absurd (show (if a ∈ cs.map (·.2) then some (HO.tbl #[]) else none) = none from if_neg aT) z
    · by_cases hb : b ∈ cs.map (·.2)
      · exact .inr (.inl hb)
      · exact .inl (if_neg hb)
    · by_cases hb : b ∈ cs.map (·.2)
      · have z' := (if_pos hb).symm.trans z
        cases z'
        exact isT b hb
      · have z' := (if_neg hb).symm.trans z
        cases z'
    · by_cases hb : b ∈ cs.map (·.2)
      · exact .inr hb
      · exact absurd (if_neg hb) z
  | none =>
    refine core (fun b => if b = a then some (.frz { cls := .type "list", data := .seq vs.toArray } (.lst (ns.map V.int))) else if b ∈ cs.map (·.2) then some (.tbl #[]) else none) (fun p hp => (if_neg (show ¬ p.2 = a from fun z => aT (by rw [← z]; exact memT p hp))).trans (if_pos (memT p hp))) (fun b => ?_)
      (.inl (.inr ⟨{ cls := .type "list", data := .seq vs.toArray }, if_pos rfl⟩)) (fun b u z => ?_) (fun b z => ?_) fun _ => hk
    · by_cases hb : b = a
      · exact .inr (.inr ⟨_, _, if_pos hb⟩)
      · by_cases hb2 : b ∈ cs.map (·.2)
        · exact .inr (.inl hb2)
        · exact .inl ((if_neg hb).trans (if_neg hb2))
    · by_cases hb : b = a
      · have z' := (if_pos hb).symm.trans z
        cases z'
        rw [hb]
        exact ⟨ha, by rw [List.length_map]; exact hl, vs, _, rv, ha⟩
      · have z1 := (if_neg hb).symm.trans z
        by_cases hb2 : b ∈ cs.map (·.2)
        · have z' := (if_pos hb2).symm.trans z1
          cases z'
          exact isT b hb2
        · have z' := (if_neg hb2).symm.trans z1
          cases z'
    · by_cases hb : b = a
      · exact .inl hb
      · by_cases hb2 : b ∈ cs.map (·.2)
        · exact .inr hb2
        · exact absurd ((if_neg hb).trans (if_neg hb2)) z
/-- what is known of the law's promise at the head's heap h -/
def LawAtG (l : PySem.W.OpenLaw) (w : World) (K : PySem.W.Frag) (CX : CXT) (k n : Nat) (x : Str) (mg : Str → Option Value) (fa : Addr) (h : Heap) : Prop :=
  ∃ (fd : FuncData) (cs : List (Addr × Addr)) (sp : Sp), (∀ p ∈ cs, h.get? p.2 = some { cls := .none, data := .fields #[] }) ∧ (∀ p ∈ cs, K.lookup p.2 = none) ∧ (∀ p ∈ cs, PySem.W.CodeHd h p.1 p.2) ∧ (∀ (s : Shared) (u : Value), BindsTo s fd ⟨[u], []⟩ [(x, u)]) ∧
    (∀ (H : Hp) (a : Addr) (ns : List Int), ns.length ≤ n → (∀ z ∈ ns, Builtin.Int.intBits z ≤ 1048576) → (∀ p ∈ cs, H p.2 = some (.tbl #[])) → SqL K H a (ns.map V.int) → sp [.ref a] H (fun v _ => v = .bl true) fun _ _ _ => False) ∧
    ∀ base : Heap, K.In base → base.Ns mainGlobals mg → (∀ p ∈ cs, TabB base mg p.1 p.2) → FnG l.prog w K mg base CX k fa fd [x] sp
theorem walk_ofG {l : PySem.W.OpenLaw} {n k : Nat} {q : Program} {loose : List Str} {XP : (Str → Option Value) → Heap → Prop} {YP : World → Heap → Prop} {d : DefRec} {K : Params → PySem.W.Frag} {CX : World → CXT} {x : Str}
    (hn : l.most = some n) (hn2 : n ≤ sizeLine) (hdf : d.params.defaults = []) (hr : RoomG k callerA) (hY : ∀ (w : World) (h : Heap), YP w h → (K w.params).In h)
    (F : ∀ (w : World) (mg : Str → Option Value) (fa : Addr) (h : Heap), YP w h → (K w.params).In h → h.Ns mainGlobals mg → mg d.name = some (.ref fa) → LawAtG l w (K w.params) (CX w) k n x mg fa h)
    (hCX : ∀ (w : World) (H : Hp) (s : Shared) (e : Value) (s' : Shared), CX w [] H s (fun _ _ _ => False) e s' → False) :
    PySem.W.WalkO q loose XP YP l.row.toRowW d [] (fun f vs => PySem.call f vs) := by
  refine Att.attach_callB hn hdf fun w s₀ s₁ mg mb fa o pm cd doc a vs ns G Y ho hd hcd hmg hobj hints hlen hbits hg => ?_
  have KX := hY w _ Y
  obtain ⟨fd, cs, sp, hT, nT, C, hb, hsp, hF⟩ := F w mg fa _ Y KX G.T.g hmg
  exact law_callG KX G.T.g G.T.b G.T.builtins G.T.nolimit hg hT nT C G.T.bmain hobj hints (Nat.le_trans hlen hn2) hr hF hb (fun H hH hS => hsp H a ns hlen hbits hH hS) fun H e s' => hCX w H s₁ e s'
end GL

-- text: GRepr
set_option Elab.async false
set_option linter.all false
set_option maxRecDepth 100000
set_option maxHeartbeats 4000000
/-! repr(x) of data at any depth, where the guards are known -/
namespace GL
open PySem PySem.Spec PyProof.Rows L2 DB GB LamX
section
variable {X : Cx}
def rRepr (K : PySem.W.Frag) : List V → Hp → VK → Prop := fun xs H Q => ∃ v d, xs = [v] ∧ Dp K H v d ∧ d.showable = true ∧ d.hasDict = false ∧ d.depth ≤ 64 ∧ d.shown.length ≤ sizeLine ∧ Q (.str d.shown) H
theorem call_repr (hg : X.A.guards = some []) (hu : X.A.units + 66 < cLine) : CallR X (.builtin "repr") (rRepr X.K) := by
  intro pins s σ H xs us Q I r h
  obtain ⟨v, d, rfl, hd, hs, hn, hdp, hz, q⟩ := h
  obtain ⟨u, rfl, ru⟩ := vals1 r
  obtain ⟨as, rd⟩ := Dp.reads I d v u hd ru
  have fin : ∀ (h' : Heap) (t : Tok) (tk : Nat), (∀ b o, s.heap.get? b = some o → h'.get? b = some o) → EP X pins σ Q (.str d.shown t) { s with heap := h', toks := tk } := fun h' t tk hk => ⟨.str d.shown, H, I.kept hk, ⟨t, rfl⟩, q⟩
  cases hd with
  | non =>
    cases ru
    exact PySem.P.repr_of_none (fin s.heap _ _ fun _ _ e => e)
  | bl b =>
    cases ru
    exact PySem.P.repr_of_bool (fin s.heap _ _ fun _ _ e => e)
  | int i =>
    obtain ⟨t, rfl⟩ := ru
    exact PySem.P.repr_of_int (of_decide_eq_true hs) (fin s.heap _ _ fun _ _ e => e)
  | str x =>
    obtain ⟨t, rfl⟩ := ru
    exact PySem.P.repr_of_str (fin s.heap _ _ fun _ _ e => e) hz
  | lst a b =>
    cases ru
    exact repr_of_reads' rd hs (fun e => by rw [hn] at e; cases e) hg (by omega) (fun _ _ e => e) (fun h' u tk hk => fin h' u tk hk) hz
  | tup a b =>
    cases ru
    exact repr_of_reads' rd hs (fun e => by rw [hn] at e; cases e) hg (by omega) (fun _ _ e => e) (fun h' u tk hk => fin h' u tk hk) hz
end
end GL

-- text: XTry
set_option Elab.async false
set_option linter.all false
set_option maxRecDepth 100000
set_option maxHeartbeats 4000000
/-! try with several clauses, each with the same name; turned from the library's rule of several clauses and its rule of one clause with a name -/
namespace XR
open PySem PySem.Spec PyProof.Rows L2
def behindAs (i : Nat) (D : Ends) : Ends := { nx := fun σ' H' => D.nx (σ'.set i none) H', rt := D.rt, bk := fun σ' H' => D.bk (σ'.set i none) H', ct := fun σ' H' => D.ct (σ'.set i none) H' }
def wManyAs (K : PySem.W.Frag) (i : Nat) (Wout : WX) (D : Ends) : List (Value × (Addr → Value → Option Addr → TS)) → WX
  | [] => Wout
  | (c, ts) :: r => fun cls d σ H => ∃ b, PySem.W.exmOne K cls c = some b ∧ (b = true → ∀ a, H a = none → ts a cls d (behindAs i D) (σ.set i (some (.ref a))) H) ∧ (b = false → wManyAs K i Wout D r cls d σ H)
inductive HdsAs (X : Cx) (n : Str) : List ExceptHandler → List (Value × (Addr → Value → Option Addr → TS)) → Prop
  | nil : HdsAs X n [] []
  | cons {x : Str} {c : Value} {ts : Addr → Value → Option Addr → TS} {b₀ : Stmt} {suite : List Stmt} {np pos' : Pos} {hds : List ExceptHandler} {l : List (Value × (Addr → Value → Option Addr → TS))} (hc : Names X x c)
      (hsu : ∀ (a : Addr) (oe : Obj) (cls : Value) (d : Option Addr) (pn : List (Addr × Obj)), Zc cls d oe → (∃ vs, oe.data = .fields vs) → PSs (X.suite a ((a, oe) :: pn)) (b₀ :: suite) (ts a cls d)) (r : HdsAs X n hds l) :
      HdsAs X n (.ExceptHandler (some (.Name x np)) (some n) (b₀ :: suite) pos' :: hds) ((c, ts) :: l)
section
variable {X : Cx} {n : Str} {i : Nat} {body : List Stmt} {h₀ : ExceptHandler} {hds : List ExceptHandler} {l : List (Value × (Addr → Value → Option Addr → TS))} {pos : Pos} {tb : WX → TS} {Wout : WX}
theorem ps_try_manyAs (hs : X.stack = X.env :: X.outer) (hf : X.env.frame = some X.env.locals) (hN : X.N.Nodup) (hi : X.N[i]? = some n) (hln : X.env.kindOf n = some .local) (tk : Takes X Wout)
    (hb : ∀ (W : WX) (pn : List (Addr × Obj)) (xe : Value → Shared → Prop), Takes (X.tr pn xe) W → PassesOwn (model X.prog X.w) X.A X.env xe → PSs (X.tr pn xe) body (tb W))
    (hh : HdsAs X n (h₀ :: hds) l) : PS X (.Try body (h₀ :: hds) [] [] pos) (fun D σ H => tb (wManyAs X.K i Wout D l) D σ H) := by
  refine ⟨fun pins s σ H D I h => ?_⟩
  have ok := I.ok
  have hfr : X.A.frames = some (X.env :: X.outer) := by rw [ok.frames, hs]
  have hloc : Loc X.env.scope n := .inl hln
  refine wpAny_Try_except ?_
  refine wpAny_mono ((hb (wManyAs X.K i Wout D l) (X.pn ++ pins) (fun e s₁ => wpAny (model X.prog X.w) X.A (noteFrame e X.env) (fun _ s₂ => wpAny (model X.prog X.w) X.A (setFlight e none) (fun _ s₃ =>
    wpAny (model X.prog X.w) X.A (handleBy e X.env (h₀ :: hds)) (SP X pins D) X.xe s₃) X.xe s₂) X.xe s₁) (fun u s' xx => ?_) PassesOwn.looking).run [] s σ H D (I.toTry _) h) (fun f s1 hsp => ?_) (fun e s1 he => he)
  · -- the catch
    obtain ⟨a, B, sI, pins', σ', H', cls, d, rfl, J', nb, up, sky, na, os, ag, w⟩ := xx
    have J : Inv X pins σ' H' sI := J'.ofTry ok
    have sky' : Sky B (X.env :: X.outer) a (Zc cls d) X.env.locals s'.heap := by rw [← hs]; exact sky
    show wpAny (model X.prog X.w) X.A (noteFrame (.ref a) X.env) _ _ _
    refine Sky.land Zc.steady hfr hf sky' fun h3 fl3 up3 => ?_
    have J3 : Inv X pins σ' H' { s' with heap := h3 } := J.landed nb fl3.1 (up.trans up3) os ag
    obtain ⟨oe3, vs3, he3, hz3, hd3⟩ := fl3.there
    have notFr : ∀ {h : Heap} {o : Obj} {vs : Array Value}, h.FunFrames B (X.env :: X.outer) → h.get? a = some o → o.data = .fields vs → a ∉ frs (X.env :: X.outer) := fun {h o vs} ff e dd hm => by
      obtain ⟨_, o', e', hnf⟩ := ff.mem hm
      rw [e] at e'; cases e'
      exact hnf _ dd
    have nfr := notFr fl3.2.2.1 he3 hd3
    have nL : a ≠ X.env.locals := fun z => nfr (List.mem_filterMap.mpr ⟨X.env, List.mem_cons_self, by rw [hf, z]⟩)
    have nF : a ∉ X.fs := fun hm => by
      obtain ⟨e, he, q⟩ := List.mem_filterMap.mp hm
      exact nfr (List.mem_filterMap.mpr ⟨e, List.mem_cons_of_mem _ he, q⟩)
    have S3 := J3.suite he3 hd3 na nL nF
    have go : ∀ {hds' : List ExceptHandler} {l' : List (Value × (Addr → Value → Option Addr → TS))}, HdsAs X n hds' l' → wManyAs X.K i Wout D l' cls d σ' H' →
        wpAny (model X.prog X.w) X.A (handleBy (.ref a) X.env hds') (SP X pins D) X.xe { s' with heap := h3 } := by
      intro hds' l' hk
      induction hk with
      | nil =>
        intro w
        refine wpAny_handleBy_nil ?_
        obtain ⟨k1, k2, k3, oe, vs, T, oT, ts', he, hz, hd, h1, hr⟩ := id fl3
        unfold PySem.passOn
        refine wpAny_bind (wpAny_field he hd h1 ?_)
        rw [if_neg (show ¬ ((Value.ref T == Value.none) = true) from by simp)]
        have fin : wpAny (model X.prog X.w) X.A (setFlight (.ref a) X.env.frame) (fun _ s4 => wpAny (model X.prog X.w) X.A (throw (.ref a) : Sem Flow) (SP X pins D) X.xe s4) X.xe { s' with heap := h3 } := by
          rw [hf]
          refine HandSPX.setFlight_upZ fl3 fun h4 hh4 up4 => wpAny_throw (tk _ _ ?_)
          exact ⟨a, B, sI, pins, σ', H', cls, d, rfl, J, nb, (up.trans up3).trans up4, .inr (.inr (by rw [hs]; exact hh4)), na, os, ag, w⟩
        first
          | exact wpAny_bind (wpAny_pure (wpAny_bind fin))
          | exact wpAny_bind fin
      | @cons x c ts b₀ suite np pos' hds2 l2 hc hsu r ih =>
        intro w
        obtain ⟨b, hb1, hyes, hno⟩ := w
        refine wpAny_handleBy_cons (codeAny_handlers_test ?_) (by intro q; cases q)
        have LT : PySem.W.Looks (model X.prog X.w) h3 (typeOf (.ref a)) cls := fun A Q E s k q => wpAny_typeOf_ref (k _ _ he3) (by rw [hz3.1]; exact q)
        have LM := PySem.W.exm_one (M := model X.prog X.w) (J3.kIn) LT hb1
        have test : ∀ {Q : Value → Shared → Prop} {E : Value → Shared → Prop}, Q c { s' with heap := h3 } → wpAny (model X.prog X.w) (X.A.mark (some (.ref a))) (eval (.Name x np) X.env) Q E { s' with heap := h3 } := fun {Q E} q => by
          obtain ⟨hg, hdbg, hm | ⟨hm, hv, hnn⟩⟩ := hc
          · exact ld_glob (X := X.suite a ((a, oe3) :: (X.pn ++ pins))) S3 hg hm q hdbg
          · exact ld_blt (X := X.suite a ((a, oe3) :: (X.pn ++ pins))) S3 hg hm hv q hnn hdbg
        refine test (LM.here ?_)
        cases b with
        | true =>
          refine codeAny_handlers_suite_as ?_
          refine HandSPX.lands_againZ fl3 fun h4 fl4 up4 => ?_
          have J4 : Inv X pins σ' H' { s' with heap := h4 } := J.landed nb fl4.1 ((up.trans up3).trans up4) os ag
          obtain ⟨oe4, vs4, he4, hz4, hd4⟩ := fl4.there
          have S4 := J4.suite he4 hd4 na nL nF
          refine store_ok (X := X.suite a ((a, oe4) :: (X.pn ++ pins))) (v := .ref a) S4 hN hi hloc rfl (fun s5 S5 => ?_) (.inr hln)
          refine wpAny_mono ((hsu a oe4 cls d (X.pn ++ pins) hz4 ⟨_, hd4⟩).run [] s5 _ H' _ S5 (hyes rfl a na)) (fun f s6 hsp => ?_) (fun _ _ z => False.elim z)
          have end_ : ∀ {σ6 : L2.St} {H6 : Hp} {Q : Shared → Prop}, Inv (X.suite a ((a, oe4) :: (X.pn ++ pins))) [] σ6 H6 s6 → (∀ s7, Inv X pins (σ6.set i none) H6 s7 → Q s7) →
              wpAny (model X.prog X.w) X.A (do bindName X.env n .none; unbindBehindTheSuite X.env n pos') (fun _ s7 => Q s7) X.xe s6 := fun {σ6 H6 Q} S6 hq => gone_ok (S6.unsuite ok) hN hi hln hq
          cases f with
          | next =>
            obtain ⟨σ6, H6, S6, q6⟩ := hsp
            exact end_ S6 fun s7 J7 => ⟨_, _, J7, q6⟩
          | brk =>
            obtain ⟨σ6, H6, S6, q6⟩ := hsp
            exact end_ S6 fun s7 J7 => ⟨_, _, J7, q6⟩
          | cont =>
            obtain ⟨σ6, H6, S6, q6⟩ := hsp
            exact end_ S6 fun s7 J7 => ⟨_, _, J7, q6⟩
          | ret u =>
            obtain ⟨v6, σ6, H6, S6, r6, q6⟩ := hsp
            exact end_ S6 fun s7 J7 => ⟨_, _, _, J7, r6, q6⟩
        | false =>
          show wpAny _ X.A (handleBy (.ref a) X.env hds2) _ _ _
          exact ih (hno rfl)
    exact go hh w
  · cases f with
    | next =>
      obtain ⟨σ', H', J', q⟩ := hsp
      exact wpAny_execs_nil ⟨σ', H', J'.ofTry ok, q⟩
    | brk =>
      obtain ⟨σ', H', J', q⟩ := hsp
      exact ⟨σ', H', J'.ofTry ok, q⟩
    | cont =>
      obtain ⟨σ', H', J', q⟩ := hsp
      exact ⟨σ', H', J'.ofTry ok, q⟩
    | ret u =>
      obtain ⟨v, σ', H', J', r, q⟩ := hsp
      exact ⟨v, σ', H', J'.ofTry ok, r, q⟩
end
end XR

-- text: XMet
set_option Elab.async false
set_option linter.all false
set_option maxRecDepth 100000
set_option maxHeartbeats 4000000
/-! a def that calls what it got and tells what it gives, or how it is refused -/
namespace XR
open PySem PySem.Spec PyProof.Rows L2 LamX
/-- the clauses: an own error's class, the tag, the field -/
def metE (K : PySem.W.Frag) (Q : VK) : List (Addr × Str × Str) → XK
  | [] => fun _ _ _ => False
  | (C, tag, fld) :: r => fun cls d H => ∃ b, PySem.W.exmOne K cls (.ref C) = some b ∧
      (b = true → cls = .ref C ∧ ∃ (dd : Addr) (fs : List (Str × V)) (v : V), d = some dd ∧ H dd = some (.xd fs) ∧ fs.lookup fld = some v ∧ ∀ p, H p = none → Q (.ref p) (upd H p (.tup [.str tag, v]))) ∧ (b = false → metE K Q r cls d H)
def TTmet (K : PySem.W.Frag) (errs : List (Addr × Str × Str)) (told : Str) : (XK → Hp → VK → Prop) → Hp → VK → Prop := fun tl H Q => tl (metE K Q errs) H fun v H' => ∀ p, H' p = none → Q (.ref p) (upd H' p (.tup [.str told, v]))
/-- a clause's reading: the name in slot 1 -/
def clTS (e : Addr × Str × Str) : Value × (Addr → Value → Option Addr → TS) := (.ref e.1, fun a cls d => tRet (tTup (tCons (tC (.str e.2.1)) (tCons (tXf a cls d e.1 e.2.2 (tVar 1)) tNil))))
theorem many_of {K : PySem.W.Frag} {D : Ends} {f : Addr} : ∀ (errs : List (Addr × Str × Str)) (cls : Value) (d : Option Addr) (σ : L2.St) (H : Hp), σ.length = 2 → metE K D.rt errs cls d H → wManyAs K 1 (fun _ _ _ _ => False) D (errs.map clTS) cls d σ H
  | [], _, _, _, _, _, h => h
  | (C, tag, fld) :: r, cls, d, σ, H, hl, h => by
    obtain ⟨b, hb, h1, h2⟩ := h
    refine ⟨b, hb, fun e a ha => ?_, fun e => many_of (f := f) r cls d σ H hl (h2 e)⟩
    obtain ⟨e1, dd, fs, v, e2, e3, e4, e5⟩ := h1 e
    refine ⟨.ref a, ?_, ⟨rfl, e1, dd, fs, v, e2, e3, e4, ⟨show 2 ≤ sizeLine by rw [sizeLine_eq]; decide, fun p hp => e5 p hp⟩⟩⟩
    rw [List.getElem?_set_self (by omega)]
theorem takes_len {X : Cx} {W : WX} (tk : Takes X W) : Takes X fun c d σ H => σ.length = X.N.length → W c d σ H := fun u s' ⟨a, B, sI, pins, σ, H, cls, d, e, I, nb, up, sky, na, os, ag, w⟩ =>
  tk u s' ⟨a, B, sI, pins, σ, H, cls, d, e, I, nb, up, sky, na, os, ag, w I.len⟩
theorem met_gives {X : Cx} {Ng : List Str} {x a q told n : Str} {sg : Scope} {g : Addr} {cdg : Value} {h₀ : ExceptHandler} {hds : List ExceptHandler} {errs : List (Addr × Str × Str)} {j k : Nat} {p1 p2 p3 p4 p5 p6 : Pos}
    (hN : Ng.Nodup) (hl2 : Ng.length = 2) (hi : Ng[1]? = some n) (hln : sg.names.lookup n = some .local) (h0 : ∀ f : Addr, (L2.start Ng [V.ref f])[0]? = some (some (V.ref f)))
    (hh : ∀ (s : Shared) (H : Hp), HdsAs (cxOf C8.CX0 X.prog X.w X.K X.mg X.base Ng x sg g cdg X.A X.stack s H C8.E0).nox n (h₀ :: hds) (errs.map clTS)) :
    GivesTo X Ng x sg g cdg [.Try [.Return (some (.Tuple [.Constant (.str told) j p4, .Call (.Name a p1) [] [] p2] k p5)) p3] (h₀ :: hds) [] [] p6] a q (TTmet X.K errs told) := by
  intro f c' s H Q tl act hc h
  refine ⟨_, pss_one (ps_try_manyAs (X := (cxOf C8.CX0 X.prog X.w X.K X.mg X.base Ng x sg g cdg X.A X.stack s H C8.E0).nox) (i := 1)
      (tb := fun W D σ H => ∃ Ech : XK, (∀ cls d σ' H', σ'.length = Ng.length → Ech cls d H' → W cls d σ' H') ∧ σ[0]? = some (some (.ref f)) ∧ H c' = some (CodeO c' q) ∧ tl Ech H fun v H' => ∀ p, H' p = none → D.rt (.ref p) (upd H' p (.tup [.str told, v])))
      rfl rfl hN hi hln LamX.takes0 (fun W pn xe tk _ => ?_) (hh s H)), ?_⟩
  · refine ⟨fun pins s' σ H' D I h' => ?_⟩
    obtain ⟨Ech, hW, h1, h2, h3⟩ := h'
    have hp := act _ pn xe Ech p1 p2 (takes_len tk) (fun cls d σ' H' he hl => hW cls d σ' H' hl he)
    have hq := pss_one (ps_ret (pos := p3) (pe_tup (x1 := k) (pos := p5) (pa_cons (pe_str (x := told) (j := j) (pos := p4)) (pa_cons hp pa_nil))))
    refine hq.run pins s' σ H' D I ⟨h1, h2, ?_⟩
    have e : (fun (v : V) (H1 : Hp) => ([V.str told, v]).length ≤ sizeLine ∧ ∀ p, H1 p = none → D.rt (.ref p) (upd H1 p (.tup [V.str told, v]))) = fun (v : V) (H1 : Hp) => ∀ p, H1 p = none → D.rt (.ref p) (upd H1 p (.tup [V.str told, v])) :=
      funext fun v => funext fun H1 => propext ⟨fun h => h.2, fun h => ⟨show 2 ≤ sizeLine by rw [sizeLine_eq]; decide, h⟩⟩
    show tl Ech H' (fun (v : V) (H1 : Hp) => ([V.str told, v]).length ≤ sizeLine ∧ ∀ p, H1 p = none → D.rt (.ref p) (upd H1 p (.tup [V.str told, v])))
    rw [e]
    exact h3
  · refine ⟨metE X.K Q errs, fun cls d σ' H' hl h' => ?_, h0 f, hc, h⟩
    exact many_of (D := { nx := fun _ H' => Q .non H', rt := Q }) (f := f) errs cls d _ H' (hl.trans hl2) h'
end XR

-- text: GComp
set_option Elab.async false
set_option linter.all false
set_option maxRecDepth 100000
set_option maxHeartbeats 4000000
/-! a list comprehension whose elements are data, made while a few objects (M) change -/
namespace GB
open PySem PySem.Spec PyProof.Rows L2 DB
theorem Kept.new {M : Addr → Prop} {H H' : Hp} {D : Addr} (k : Kept M H H') (h : H D = Option.none) (o : HO) : Kept M H (L2.upd H' D o) := fun a u q => by
  obtain ⟨n, q'⟩ := hide_some q
  have ne : a ≠ D := ne_of_none q' h
  rw [hide_off n, upd_ne ne]
  exact k.at n q'
theorem Kept.same {M : Addr → Prop} {H H' H'' : Hp} (k : Kept M H H') (e : Same H' H'') : Kept M H H'' := k.trans (Kept.of e)
theorem Kept.after {M : Addr → Prop} {H H' H'' : Hp} (e : Same H H') (k : Kept M H' H'') : Kept M H H'' := (Kept.of e).trans k
theorem Kept.none {M : Addr → Prop} {H H' : Hp} {p : Addr} (k : Kept M H H') (n : ¬ M p) (h : H' p = Option.none) : H p = Option.none := by
  cases e : H p with
  | none => rfl
  | some o => rw [k.at n e] at h; cases h
theorem Kept.tr {M N : Addr → Prop} {H H' : Hp} (k : Kept M H H') (t : Tr N H) (tm : Tr M H') : Tr N H' := fun a q h => by
  by_cases m : M a
  · exact tm a m h
  · cases e : H a with
    | none => exact t a q e
    | some o => rw [k.at m e] at h; cases h
end GB
namespace GL
open PySem PySem.Spec PyProof.Rows L2 DB GB
theorem lck {K : PySem.W.Frag} {J : It} {St : Hp → Prop} {H1 : Hp} {n : Nat} {R : Nat → V → Hp → Hp → Prop} {g : TG} {tt : TT} {te : TE} {vs : List Nat} {σ : L2.St} {Q : VK} (S : SrcP J St n R) (hn : n ≤ 100000) {N M : Addr → Prop} (hM : ∀ a, M a → N a) (hN : Tr N H1)
    (Pi : Nat → Hp → Prop) (h0 : Pi 0 H1) (ps : ∀ i H H', Pi i H → Same H H' → Pi i H') (pk : ∀ i H D o, Pi i H → ¬ M D → Pi i (upd H D o)) (pt : ∀ i H, Pi i H → Tr M H) (hSt : ∀ H, Kept M H1 H → St H) (ok : Nat → PyData → Prop)
    (step : ∀ (i : Nat) (x : V) (H' H'' : Hp) (N' : Addr → Prop) (Q2 : VK) (Q3 : Hp → Prop), i < n → Kept M H1 H' → Pi i H' → Same H' H'' → R i x H' H'' → Tr N' H'' → (∀ a, N a → N' a) → Same (hide N H1) (hide N' H'') →
      (∀ y H4 d, Kept M H'' H4 → Pi (i + 1) H4 → ok i d → Dp K (hide N' H4) y d → Q2 y H4) → g x (wipe σ vs) H'' fun σ2 H2 => wipe σ2 vs = wipe σ vs ∧ tt σ2 H2 fun b H3 => if b = true then te σ2 H3 Q2 else Q3 H3)
    (fin : ∀ D H2 ys dl, H1 D = none → ¬ N D → Kept M H1 H2 → Pi n H2 → H2 D = some (.lst ys) → DpAll K (hide N H2) ys dl → dl.length = n → (∀ i d, dl[i]? = some d → ok i d) → Q (.ref D) H2) : LcR J H1 g tt te vs σ Q := by
  refine lcq S hn (fun D i ys H => Kept M H1 H ∧ Pi i H ∧ ∃ dl, DpAll K (hide (plus N D) H) ys dl ∧ dl.length = i ∧ ∀ j d, dl[j]? = some d → ok j d) (fun D hD => ?_) (fun D i ys H q => hSt H q.1) (fun D i x ys H' H'' Q2 Q3 hi hD q hy hl e r q2 q3 => ?_) (fun D H2 ys hD q hy => ?_)
  · have nD : ¬ M D := fun m => hN D (hM D m) hD
    exact ⟨(Kept.refl H1).new hD _, pk _ _ _ _ h0 nD, [], .nil, rfl, fun j d h => nomatch h⟩
  · obtain ⟨k, p, dl, hdl, hlen, hok⟩ := q
    have nND : ¬ N D := hN.off hD
    have nD : ¬ M D := fun m => nND (hM D m)
    have k'' := k.same e
    have hy'' := e _ _ hy
    have t1 : Tr N H'' := k''.tr hN (pt _ _ (ps _ _ _ p e))
    refine step i x H' H'' (plus N D) Q2 Q3 hi k p e r (plus_tr t1 hy'') (fun a => .inr) (fun a o q => ?_) (fun y H4 d k4 p4 o4 d4 => ?_)
    · obtain ⟨n1, q1⟩ := hide_some q
      have n2 : ¬ plus N D a := fun z => z.elim (fun z => ne_of_none q1 hD z) n1
      rw [hide_off n2]
      exact k''.at (fun m => n1 (hM a m)) q1
    · have hy4 := k4.at nD hy''
      refine q2 y H4 hy4 ⟨(k''.trans k4).new hD _, pk _ _ _ _ p4 nD, dl ++ [d], ?_, by rw [List.length_append, hlen]; rfl, fun j d' h => ?_⟩
      · rw [plus_in]
        have k4' : Kept (plus N D) H'' H4 := k4.sub fun a m => .inr (hM a m)
        exact DpAll.app (DpAll.same ((hide_mono e).trans k4') hdl) (.cons d4 .nil)
      · by_cases hj : j < dl.length
        · rw [List.getElem?_append_left hj] at h
          exact hok j d' h
        · rw [List.getElem?_append_right (by omega)] at h
          have : j - dl.length = 0 := by
            cases e : j - dl.length with
            | zero => rfl
            | succ m => rw [e] at h; cases h
          rw [this] at h
          cases h
          have : j = i := by omega
          subst this
          exact o4
  · obtain ⟨k, p, dl, hdl, hlen, hok⟩ := q
    exact fin D H2 ys dl hD (hN.off hD) k p hy (DpAll.same plus_down hdl) hlen hok
end GL

-- text: W0
set_option Elab.async false
set_option linter.all false
set_option maxRecDepth 100000
set_option maxHeartbeats 4000000
namespace WD
open PySem PySem.Spec PyProof.Rows L2 GB GL
open DB hiding isi1 isiT
def top (i : Nat) : Stmt := PySem.Challenge.pw_eithershown_k23_whole_places.main.body.getD i (.Pass ⟨0, 0, 0, 0⟩)
def sSMALL : Str := "abcdefghijklmnopqrstuvwxyz"
def sFIGURES : Str := "0123456789"
def sCAPITALS : Str := "ABCDEFGHIJKLMNOPQRSTUVWXYZ"
def kwords : List Str := (["all", "some", "not", "and", "or", "then", "iff", "false", "axiom", "goal", "function", "predicate", "things", "is", "by", "on", "of", "put", "for", "in", "at", "into", "given", "instance", "resolve", "replace", "same", "alike", "either", "turned", "chained", "parts", "holds", "class", "fact", "cell", "clash", "size", "follows", "fails", "open", "watch", "hold"] : List String).map Str.ofString
structure Glob (K : PySem.W.Frag) (mg : Str → Option Value) : Prop where
  small : ∃ u, mg "SMALL" = some u ∧ RelV (.str sSMALL) u
  figures : ∃ u, mg "FIGURES" = some u ∧ RelV (.str sFIGURES) u
  capitals : ∃ u, mg "CAPITALS" = some u ∧ RelV (.str sCAPITALS) u
  words : ∃ (a : Addr) (u : Value), mg "WORDS" = some u ∧ RelV (.ref a) u ∧ ∀ H, SqT K H a (kwords.map V.str)
  isinstance : mg "isinstance" = none
  str : mg "str" = none
  list : mg "list" = none
  tuple : mg "tuple" = none
  int : mg "int" = none
  bool : mg "bool" = none
  dict : mg "dict" = none
  len : mg "len" = none
  all : mg "all" = none
  range : mg "range" = none
  enumerate : mg "enumerate" = none
  zip : mg "zip" = none
  max : mg "max" = none
  min : mg "min" = none
  repr : mg "repr" = none
/-! ### data, with empty dicts -/
mutual
inductive DE (K : PySem.W.Frag) (H : Hp) : V → PyData → Prop
  | non : DE K H .non .none
  | bl (b : Bool) : DE K H (.bl b) (.bool b)
  | int (i : Int) : DE K H (.int i) (.int i)
  | str (x : Str) : DE K H (.str x) (.str x)
  | lst {a : Addr} {xs : List V} {ds : List PyData} : SqL K H a xs → DEs K H xs ds → DE K H (.ref a) (.list ds)
  | tup {a : Addr} {xs : List V} {ds : List PyData} : SqT K H a xs → DEs K H xs ds → DE K H (.ref a) (.tuple ds)
  | dct {a : Addr} : H a = some (.dK []) → DE K H (.ref a) (.dict [])
inductive DEs (K : PySem.W.Frag) (H : Hp) : List V → List PyData → Prop
  | nil : DEs K H [] []
  | cons {v : V} {vs : List V} {d : PyData} {ds : List PyData} : DE K H v d → DEs K H vs ds → DEs K H (v :: vs) (d :: ds)
end
section
variable {K : PySem.W.Frag} {H H' : Hp}
mutual
theorem DE.same (e : Same H H') : ∀ {v : V} {d : PyData}, DE K H v d → DE K H' v d
  | _, _, .non => .non
  | _, _, .bl b => .bl b
  | _, _, .int i => .int i
  | _, _, .str x => .str x
  | _, _, .lst h a => .lst (e.seq h) (DEs.same e a)
  | _, _, .tup h a => .tup (Same.tupL e h) (DEs.same e a)
  | _, _, .dct h => .dct (e _ _ h)
theorem DEs.same (e : Same H H') : ∀ {vs : List V} {ds : List PyData}, DEs K H vs ds → DEs K H' vs ds
  | _, _, .nil => .nil
  | _, _, .cons h a => .cons (DE.same e h) (DEs.same e a)
end
mutual
theorem DE.of : ∀ {v : V} {d : PyData}, Dp K H v d → DE K H v d
  | _, _, .non => .non
  | _, _, .bl b => .bl b
  | _, _, .int i => .int i
  | _, _, .str x => .str x
  | _, _, .lst h a => .lst h (DEs.of a)
  | _, _, .tup h a => .tup h (DEs.of a)
theorem DEs.of : ∀ {vs : List V} {ds : List PyData}, DpAll K H vs ds → DEs K H vs ds
  | _, _, .nil => .nil
  | _, _, .cons h a => .cons (DE.of h) (DEs.of a)
end
theorem DEs.length : ∀ {vs : List V} {ds : List PyData}, DEs K H vs ds → vs.length = ds.length
  | _, _, .nil => rfl
  | _, _, .cons _ a => by rw [List.length_cons, List.length_cons, DEs.length a]
theorem DEs.get : ∀ {vs : List V} {ds : List PyData} {i : Nat} {v : V}, DEs K H vs ds → vs[i]? = some v → ∃ d, ds[i]? = some d ∧ DE K H v d
  | _, _, i, v, .nil, h => by simp at h
  | _, _, 0, v, .cons q a, h => by
    have e := Option.some.inj (show some _ = some v from h)
    subst e
    exact ⟨_, rfl, q⟩
  | _, _, i + 1, v, .cons q a, h => DEs.get (i := i) a (by simpa using h)
theorem DE.ty : ∀ {v : V} {d : PyData}, DE K H v d → TyX K H v (.type (tn d))
  | _, _, .non => .base .non
  | _, _, .bl b => .base (.bl b)
  | _, _, .int i => .base (.int i)
  | _, _, .str x => .base (.str x)
  | _, _, .lst (.inl (.inl h)) _ => .base (.lst h)
  | _, _, .lst (.inl (.inr ⟨o, h⟩)) _ => .base (.frz h)
  | _, _, .lst (.inr ⟨o, its, n, h, c, _⟩) _ => .kList h c
  | _, _, .tup (.inl (.inl h)) _ => .base (.tup h)
  | _, _, .tup (.inl (.inr ⟨o, h⟩)) _ => .fTuple h
  | _, _, .tup (.inr ⟨o, its, n, h, c, _⟩) _ => .kTuple h c
  | _, _, .dct h => .base (.dK h)
theorem isi1 {v : V} {d : PyData} {T : String} {r : Bool} {Q : VK} (h : DE K H v d) (hk : kitB (tn d) T = some r) (q : Q (.bl r) H) : rIsi K [v, .ty T] H Q :=
  ⟨v, .ty T, .type (tn d), .type T, r, rfl, .ty T, DE.ty h, kit_ty hk, q⟩
theorem isiT {v : V} {d : PyData} {p : Addr} {cs : List String} {r : Bool} {Q : VK} (h : DE K H v d) (hp : H p = some (.tup (cs.map V.ty))) (hk : kitBs (tn d) cs = some r) (q : Q (.bl r) H) : rIsiT K [v, .ref p] H Q :=
  ⟨v, p, cs.map V.ty, .type (tn d), cs.map Value.type, r, rfl, hp, clsV_all cs, DE.ty h, kitAny_bs hk, q⟩
end
end WD

-- text: W1
set_option Elab.async false
set_option linter.all false
set_option maxRecDepth 100000
set_option maxHeartbeats 4000000
namespace WD
open PySem PySem.Spec PyProof.Rows L2 GB GL
open DB hiding isi1 isiT
local macro_rules | `(tactic| walk_at "rd") => `(tactic| (dsimp only [cxOf, Cx.nox, L2.start, tRet, tRetN, tCB, tCons, tNil, tC, tVar, tTup, tLst, tB, tTest, tAnd, tOr, tNot, tAndV, tOrV, tNotV, tIfS, tIf, tSeq, tNext, tDrop, tOp, tUn, tAsg, gName, gSub, tSl, tPart, tNoPart, tCall, tPar, tBM, tChain, tYes, StX.tStar, tFld, tNotN, tIsN, tDNotIn, tDIn, tDGet, tDGet2, tDNewK, gTup, gCons, gNil, tLockE, iKeys, XR.iZipTN, sFld, sDPut, iEnum, XR.iEnumK, XR.iEnumT, iList, RZ.iZipA, iTup, iRng1, iRng2, tMake, tPar3, tRevL, XR.tTwo3, List.length_cons, List.length_nil, List.set_cons_zero, List.set_cons_succ, List.nil_append, List.cons_append, List.append_nil]))
section
variable {P : Program} {w : World} {K : PySem.W.Frag} {mg : Str → Option Value} {base : Heap}
def spIsList (K : PySem.W.Frag) : Sp := fun vs H Q _ => ∃ v d, vs = [v] ∧ DE K H v d ∧ ∀ H', Same H H' → Q (.bl (tn d == "list" || tn d == "tuple")) H'
abbrev st_is_list : Stmt := top 21
theorem sc_is_list : FnScope ["thing"] ["thing"] (defScope st_is_list) := ⟨rfl, rfl, rfl, by decide +kernel, rfl, by decide +kernel, by decide +kernel⟩
theorem ok_is_list (G : Glob K mg) (D : Def K mg "is_list" st_is_list ["thing"]) : Callee P w K mg base 1 "is_list" ["thing"] (spIsList K) := by
  obtain ⟨f, fd, F, b, m⟩ := D.ex
  have z_isinstance := G.isinstance
  have z_list := G.list
  have z_tuple := G.tuple
  refine ⟨f, fd, F.ok sc_is_list (fun vs H Q E h => ?_) (fun cdv A outer s H vs Q E hr h => ?_), b, F.kp, m⟩
  · obtain ⟨v, d, rfl, _⟩ := h
    rfl
  · obtain ⟨v, d, rfl, hd, k⟩ := h
    refine ⟨_, (pss_one (ps_ret (pe_callB call_isiT rfl z_isinstance boot_isinstance (pa_cons (pv 0) (pa_cons (pe_tup (pa_cons (pe_bltn (v := .ty "list") rfl z_list boot_list rfl) (pa_cons (pe_bltn (v := .ty "tuple") rfl z_tuple boot_tuple rfl) pa_nil))) pa_nil))))), ?_⟩
    refine ⟨v, rfl, by decide, fun p hp => ?_⟩
    exact isiT (cs := ["list", "tuple"]) (DE.same (same_new hp _) hd) upd_same (kb_lt d) (k _ (same_new hp _))
def spIsInteger (K : PySem.W.Frag) : Sp := fun vs H Q _ => ∃ v d, vs = [v] ∧ DE K H v d ∧ Q (.bl (tn d == "int")) H
abbrev st_is_integer : Stmt := top 22
theorem sc_is_integer : FnScope ["thing"] ["thing"] (defScope st_is_integer) := ⟨rfl, rfl, rfl, by decide +kernel, rfl, by decide +kernel, by decide +kernel⟩
theorem ok_is_integer (G : Glob K mg) (D : Def K mg "is_integer" st_is_integer ["thing"]) : Callee P w K mg base 1 "is_integer" ["thing"] (spIsInteger K) := by
  obtain ⟨f, fd, F, b, m⟩ := D.ex
  have z_isinstance := G.isinstance
  have z_int := G.int
  have z_bool := G.bool
  refine ⟨f, fd, F.ok sc_is_integer (fun vs H Q E h => ?_) (fun cdv A outer s H vs Q E hr h => ?_), b, F.kp, m⟩
  · obtain ⟨v, d, rfl, _⟩ := h
    rfl
  · obtain ⟨v, d, rfl, hd, k⟩ := h
    refine ⟨_, (pss_one (ps_ret (pe_and (pe_callB call_isi rfl z_isinstance boot_isinstance (pa_cons (pv 0) (pa_cons (pe_bltn (v := .ty "int") rfl z_int boot_int rfl) pa_nil))) (pe_one (pe_not (pe_callB call_isi rfl z_isinstance boot_isinstance (pa_cons (pv 0) (pa_cons (pe_bltn (v := .ty "bool") rfl z_bool boot_bool rfl) pa_nil)))))))), ?_⟩
    walk_at "rd"
    refine ⟨v, rfl, ?_⟩
    refine isi1 hd (kb_int d) ?_
    refine ⟨_, rfl, ?_⟩
    by_cases h1 : (tn d == "int" || tn d == "bool") = true
    · rw [if_pos h1]
      refine ⟨v, rfl, ?_⟩
      refine isi1 hd (kb_bool d) ?_
      refine ⟨_, rfl, ?_⟩
      have e := (by decide +kernel : ∀ t ∈ tns, (t == "int" || t == "bool") = true → (!(t == "bool")) = (t == "int")) _ (tn_mem d) h1
      rw [e]
      exact k
    · rw [if_neg h1]
      have e := (by decide +kernel : ∀ t ∈ tns, ¬ (t == "int" || t == "bool") = true → (t == "int") = false) _ (tn_mem d) h1
      rw [e] at k
      exact k
def chOk (c : Nat) : Bool := decide (c ∈ sSMALL.cps.toList) || decide (c ∈ sFIGURES.cps.toList)
def bigSmall (x : Str) : Bool := match x.cps[0]? with
  | some c => decide (c ∈ sSMALL.cps.toList)
  | none => false
def nameOk (x : Str) : Bool := decide ((0 : Int) < (x.length : Nat)) && decide (((x.length : Nat) : Int) < 9) && !inV (.str x) (kwords.map V.str) && bigSmall x && x.cps.toList.all chOk
def bigCap (x : Str) : Bool := match x.cps[0]? with
  | some c => decide (c ∈ sCAPITALS.cps.toList)
  | none => false
def isNm : PyData → Bool
  | .str x => nameOk x
  | _ => false
theorem all_of {n : Nat} {l : List Nat} (h : n = l.length) (f : Nat → Bool) : (((List.range n).map fun i => f (l.getD i 0)).all id) = l.all f := by
  subst h
  rw [List.all_map]
  apply Bool.eq_iff_iff.mpr
  rw [List.all_eq_true, List.all_eq_true]
  constructor
  · intro q x hx
    obtain ⟨i, hi, rfl⟩ := List.mem_iff_getElem.mp hx
    have := q i (List.mem_range.mpr hi)
    simpa [List.getD, hi] using this
  · intro q i hi
    have hi' := List.mem_range.mp hi
    have := q l[i] (List.getElem_mem hi')
    simpa [List.getD, hi'] using this
def spIsName (K : PySem.W.Frag) : Sp := fun vs H Q _ => ∃ v d, vs = [v] ∧ DE K H v d ∧ (∀ x, d = .str x → x.length ≤ 100000) ∧ ∀ H', Same H H' → Q (.bl (isNm d)) H'
abbrev st_is_name : Stmt := top 24
theorem sc_is_name : FnScope ["thing", "sign"] ["thing"] (defScope st_is_name) := ⟨rfl, rfl, rfl, by decide +kernel, rfl, by decide +kernel, by decide +kernel⟩
theorem ok_is_name (G : Glob K mg) (D : Def K mg "is_name" st_is_name ["thing"]) : Callee P w K mg base 1 "is_name" ["thing"] (spIsName K) := by
  obtain ⟨f, fd, F, b, m⟩ := D.ex
  have z_isinstance := G.isinstance
  have z_str := G.str
  have z_len := G.len
  have z_all := G.all
  obtain ⟨uS, T_SMALL⟩ := G.small
  obtain ⟨uF, T_FIGURES⟩ := G.figures
  obtain ⟨aW, uW, m1, m2, hW⟩ := G.words
  have T_WORDS : mg "WORDS" = some uW ∧ RelV (.ref aW) uW := ⟨m1, m2⟩
  refine ⟨f, fd, F.ok sc_is_name (fun vs H Q E h => ?_) (fun cdv A outer s H vs Q E hr h => ?_), b, F.kp, m⟩
  · obtain ⟨v, d, rfl, _⟩ := h
    rfl
  · obtain ⟨v, d, rfl, hd, hl, k⟩ := h
    refine ⟨_, (pss_cons (ps_if (PW.pt (pw_or (pt_not (pt_val (pe_callB call_isi rfl z_isinstance boot_isinstance (pa_cons (pv 0) (pa_cons (pe_bltn (v := .ty "str") rfl z_str boot_str rfl) pa_nil))))) (pw_or (pt_not (pt_chain op_lt op_lt pe_int (pe_callB call_len_str rfl z_len PySem.boot_len (pa_cons (pv 0) pa_nil)) pe_int)) (pw_or (pt_cmpR op_in_seq (pv 0) (pe_glob rfl T_WORDS.1 T_WORDS.2) (by with_unfolding_all rfl)) (pw_or1 (pt_cmpR op_notIn_sign (pe_ix ix_str (pv 0) pe_int (fun _ _ => rfl)) (pe_glob rfl T_SMALL.1 T_SMALL.2) (by with_unfolding_all rfl))))))) (pss_one (ps_ret pe_bl)) pss_nil) (pss_one (ps_ret (pe_callB (cr_all rfl) rfl z_all boot_all (pa_cons (pe_lc (own := [("sign", 1)]) (g := (gName 1)) (tt := tYes) rfl sc_is_name.nd (pi_str (pv 0)) (blkOk_by (N := ["thing", "sign"]) (sc := defScope st_is_name) (by decide +kernel)) (fun _ _ _ _ _ => (pg_name (i := 1) sc_is_name.nd rfl (Or.inl rfl))) (fun _ _ _ _ _ => pts_nil) (fun _ _ _ _ _ => (pe_or (pe_cmpR op_in_sign (pv 1) (pe_glob rfl T_SMALL.1 T_SMALL.2) (by with_unfolding_all rfl)) (pe_one (pe_cmpR op_in_sign (pv 1) (pe_glob rfl T_FIGURES.1 T_FIGURES.2) (by with_unfolding_all rfl)))))) pa_nil))))), ?_⟩
    have h0 := Same.refl H
    by_cases hs : (tn d == "str") = true
    · obtain ⟨x, rfl⟩ : ∃ x, d = .str x := by
        cases d with
        | str x => exact ⟨x, rfl⟩
        | _ => simp [tn] at hs
      cases hd
      have hx := hl x rfl
      have hz : x.length ≤ sizeLine := Nat.le_trans hx (by decide)
      refine q_when (!(decide ((0 : Int) < (x.length : Nat)) && decide (((x.length : Nat) : Int) < 9) && !inV (.str x) (kwords.map V.str) && bigSmall x)) (fun Q1 q1 => ?_) (fun hb H' e => ?_) (fun hb H' e => ?_)
      · walk_at "rd"
        refine ⟨_, rfl, isi1 (.str x) (kb_str (.str x)) ⟨_, rfl, ?_⟩⟩
        rw [if_neg (show ¬ (!tn (PyData.str x) == "str") = true by simp [tn])]
        refine ⟨_, rfl, x, rfl, hz, 0, _, rfl, rfl, _, rfl, ?_⟩
        refine ite_b (fun e1 => ?_) (fun e1 => ?_)
        · refine ⟨_, _, rfl, rfl, _, rfl, ?_⟩
          refine ite_b (fun e2 => ?_) (fun e2 => ?_)
          · have e3 : decide (((x.length : Nat) : Int) < 9) = false := by simpa using e2
            have := q1 H h0
            simp only [e3, Bool.and_false, Bool.false_and, Bool.not_false] at this
            exact this
          · have e3 : decide (((x.length : Nat) : Int) < 9) = true := by simpa using e2
            refine ⟨_, rfl, aW, _, rfl, .inr (hW H), rfl, by decide +kernel, _, rfl, ?_⟩
            refine ite_b (fun e4 => ?_) (fun e4 => ?_)
            · have e5 : inV (.str x) (kwords.map V.str) = true := e4
              have := q1 H h0
              simp only [e5, Bool.and_false, Bool.false_and, Bool.not_false, Bool.not_true] at this
              exact this
            · have e5 : inV (.str x) (kwords.map V.str) = false := e4
              have hp : 0 < x.cps.size := by
                have e6 : (0 : Int) < (x.length : Nat) := of_decide_eq_true e1
                have e7 : x.length = x.cps.size := rfl
                omega
              have e6 : x.cps[0]? = some x.cps[0] := by simp [hp]
              have e7 : bigSmall x = decide (x.cps[0] ∈ sSMALL.cps.toList) := by unfold bigSmall; rw [e6]
              refine ⟨_, rfl, x, 0, x.cps[0], rfl, rfl, hz, atI_nat (j := 0) (by simp [hp]), _, _, rfl, rfl, _, rfl, ?_⟩
              have := q1 H h0
              rw [e1, e3, e5, e7] at this
              simpa using this
        · refine ⟨_, rfl, ?_⟩
          refine iteT ?_
          have := q1 H h0
          simp only [e1, Bool.and_false, Bool.false_and, Bool.not_false] at this
          exact this
      · have e1 : nameOk x = false := by
          unfold nameOk
          simp only [Bool.not_eq_true'] at hb
          rw [hb]
          rfl
        have := k H' e
        rw [show isNm (.str x) = false from e1] at this
        exact this
      · have e1 : nameOk x = x.cps.toList.all chOk := by
          unfold nameOk
          simp only [Bool.not_eq_false'] at hb
          rw [hb]
          rfl
        walk_at "rd"
        refine rd_lc ?_
        refine ⟨_, rfl, x, rfl, ?_⟩
        refine lcp (K := K) (N := no0) (tr0 _) src_str (by rw [Array.length_toList]; exact hx) (fun _ => true) (fun i => .bool (chOk (x.cps.toList.getD i 0))) (fun i v H2 N' Q2 Q3 hi e2 r tr hs2 q2 q3 => ?_) (fun Dl H2 ys nD e2 hy da => ?_)
        · obtain ⟨c, hc, rfl⟩ := r
          refine ⟨rfl, ?_⟩
          walk_at "rd"
          refine iteT ?_
          refine ⟨_, rfl, c, _, rfl, rfl, _, rfl, ?_⟩
          have ec : x.cps.toList.getD i 0 = c := by rw [List.getD_eq_getElem?_getD, hc]; rfl
          refine ite_b (fun a1 => ?_) (fun a1 => ?_)
          · refine q2 _ _ (Same.refl _) rfl ?_
            rw [ec]
            have : chOk c = true := by unfold chOk; rw [a1]; rfl
            rw [this]
            exact .bl true
          · refine ⟨_, rfl, c, _, rfl, rfl, q2 _ _ (Same.refl _) rfl ?_⟩
            rw [ec]
            have : chOk c = decide (c ∈ sFIGURES.cps.toList) := by unfold chOk; rw [a1]; rfl
            rw [this]
            exact .bl _
        · have ef : ((List.range x.cps.toList.length).filter (fun _ => true)).map (fun i => PyData.bool (chOk (x.cps.toList.getD i 0))) = ((List.range x.cps.toList.length).map fun i => chOk (x.cps.toList.getD i 0)).map PyData.bool := by
            rw [List.filter_eq_self.mpr (fun _ _ => rfl), List.map_map]
            rfl
          rw [ef] at da
          have ey := DpAll.bls da
          refine ⟨Dl, _, rfl, .inl (.inl (by rw [hy, ey])), ?_⟩
          rw [all_of rfl chOk, ← e1]
          exact k H2 (e.trans e2)
    · have hs' : (tn d == "str") = false := by simpa using hs
      refine q_when true (fun Q1 q1 => ?_) (fun hb H' e => ?_) (fun hb => nomatch hb)
      · walk_at "rd"
        refine ⟨_, rfl, isi1 hd (kb_str d) ⟨_, rfl, ?_⟩⟩
        rw [hs']
        exact q1 H h0
      · have e1 : isNm d = false := by
          cases d with
          | str x => simp [tn] at hs
          | _ => rfl
        rw [← e1]
        exact k H' e

def bigCap' (x : Str) : Bool := bigCap x
def isNum : PyData → Bool
  | .int i => decide (0 ≤ i)
  | _ => false
end
end WD

-- text: W2
set_option Elab.async false
set_option linter.all false
set_option maxRecDepth 100000
set_option maxHeartbeats 4000000
namespace WD
open PySem PySem.Spec PyProof.Rows L2 GB GL
open DB hiding isi1 isiT
local macro_rules | `(tactic| walk_at "rd") => `(tactic| (dsimp only [cxOf, Cx.nox, L2.start, tRet, tRetN, tCB, tCons, tNil, tC, tVar, tTup, tLst, tB, tTest, tAnd, tOr, tNot, tAndV, tOrV, tNotV, tIfS, tIf, tSeq, tNext, tDrop, tOp, tUn, tAsg, gName, gSub, tSl, tPart, tNoPart, tCall, tPar, tBM, tChain, tYes, StX.tStar, tFld, tNotN, tIsN, tDNotIn, tDIn, tDGet, tDGet2, tDNewK, gTup, gCons, gNil, tLockE, iKeys, XR.iZipTN, sFld, sDPut, iEnum, XR.iEnumK, XR.iEnumT, iList, RZ.iZipA, iTup, iRng1, iRng2, tMake, tPar3, tRevL, XR.tTwo3, List.length_cons, List.length_nil, List.set_cons_zero, List.set_cons_succ, List.nil_append, List.cons_append, List.append_nil]))
section
variable {P : Program} {w : World} {K : PySem.W.Frag} {mg : Str → Option Value} {base : Heap}
abbrev st_is_number : Stmt := top 23
theorem sc_is_number : FnScope ["thing"] ["thing"] (defScope st_is_number) := ⟨rfl, rfl, rfl, by decide +kernel, rfl, by decide +kernel, by decide +kernel⟩
def spIsNumber (K : PySem.W.Frag) : Sp := fun vs H Q _ => ∃ v d, vs = [v] ∧ DE K H v d ∧ ∀ H', Same H H' → Q (.bl (isNum d)) H'
theorem ok_is_number (D : Def K mg "is_number" st_is_number ["thing"]) (c_is_integer : Callee P w K mg base 1 "is_integer" ["thing"] (spIsInteger K)) : Callee P w K mg base 2 "is_number" ["thing"] (spIsNumber K) := by
  obtain ⟨f, fd, F, b, m⟩ := D.ex
  refine ⟨f, fd, F.ok sc_is_number (fun vs H Q E h => ?_) (fun cdv A outer s H vs Q E hr h => ?_), b, F.kp, m⟩
  · obtain ⟨v, d, rfl, _⟩ := h
    rfl
  · obtain ⟨v, d, rfl, hd, k⟩ := h
    have hr_is_integer := hr
    refine ⟨_, (pss_one (ps_ret (pe_and (pe_own c_is_integer hr_is_integer rfl (pa_cons (pv 0) pa_nil)) (pe_one (pe_cmpR op_ge (pv 0) pe_int (nomark _)))))), ?_⟩
    walk_at "rd"
    refine ⟨_, rfl, v, d, rfl, hd, _, rfl, ?_⟩
    have k0 := k H (Same.refl _)
    cases hd with
    | int i =>
      refine iteT ?_
      exact ⟨_, rfl, _, _, rfl, rfl, k0⟩
    | _ => exact iteF k0
abbrev st_is_variable : Stmt := top 25
theorem sc_is_variable : FnScope ["thing", "sign"] ["thing"] (defScope st_is_variable) := ⟨rfl, rfl, rfl, by decide +kernel, rfl, by decide +kernel, by decide +kernel⟩

def figs (x : Str) : Bool := (x.cps.toList.drop 1).all fun c => decide (c ∈ sFIGURES.cps.toList)
def varOk (x : Str) : Bool := decide ((0 : Int) < (x.length : Nat)) && decide (((x.length : Nat) : Int) < 9) && bigCap x && figs x
def isVr : PyData → Bool
  | .str x => varOk x
  | _ => false
def spIsVariable (K : PySem.W.Frag) : Sp := fun vs H Q _ => ∃ v d, vs = [v] ∧ DE K H v d ∧ (∀ x, d = .str x → x.length ≤ 100000) ∧ ∀ H', Same H H' → Q (.bl (isVr d)) H'
theorem ok_is_variable (G : Glob K mg) (D : Def K mg "is_variable" st_is_variable ["thing"]) : Callee P w K mg base 1 "is_variable" ["thing"] (spIsVariable K) := by
  obtain ⟨f, fd, F, b, m⟩ := D.ex
  have z_isinstance := G.isinstance
  have z_str := G.str
  have z_len := G.len
  have z_all := G.all
  obtain ⟨uF, T_FIGURES⟩ := G.figures
  obtain ⟨uC, T_CAPITALS⟩ := G.capitals
  refine ⟨f, fd, F.ok sc_is_variable (fun vs H Q E h => ?_) (fun cdv A outer s H vs Q E hr h => ?_), b, F.kp, m⟩
  · obtain ⟨v, d, rfl, _⟩ := h
    rfl
  · obtain ⟨v, d, rfl, hd, hl, k⟩ := h
    refine ⟨_, (pss_cons (ps_if (PW.pt (pw_or (pt_not (pt_val (pe_callB call_isi rfl z_isinstance boot_isinstance (pa_cons (pv 0) (pa_cons (pe_bltn (v := .ty "str") rfl z_str boot_str rfl) pa_nil))))) (pw_or (pt_not (pt_chain op_lt op_lt pe_int (pe_callB call_len_str rfl z_len PySem.boot_len (pa_cons (pv 0) pa_nil)) pe_int)) (pw_or1 (pt_cmpR op_notIn_sign (pe_ix ix_str (pv 0) pe_int (fun _ _ => rfl)) (pe_glob rfl T_CAPITALS.1 T_CAPITALS.2) (by with_unfolding_all rfl)))))) (pss_one (ps_ret pe_bl)) pss_nil) (pss_one (ps_ret (pe_callB (cr_all rfl) rfl z_all boot_all (pa_cons (pe_lc (own := [("sign", 1)]) (g := (gName 1)) (tt := tYes) rfl sc_is_variable.nd (pi_str (pe_slice sl_str (pv 0) (po_some pe_int) po_none)) (blkOk_by (N := ["thing", "sign"]) (sc := defScope st_is_variable) (by decide +kernel)) (fun _ _ _ _ _ => (pg_name (i := 1) sc_is_variable.nd rfl (Or.inl rfl))) (fun _ _ _ _ _ => pts_nil) (fun _ _ _ _ _ => (pe_cmpR op_in_sign (pv 1) (pe_glob rfl T_FIGURES.1 T_FIGURES.2) (by with_unfolding_all rfl)))) pa_nil))))), ?_⟩
    have h0 := Same.refl H
    by_cases hs : (tn d == "str") = true
    · obtain ⟨x, rfl⟩ : ∃ x, d = .str x := by
        cases d with
        | str x => exact ⟨x, rfl⟩
        | _ => simp [tn] at hs
      cases hd
      have hx := hl x rfl
      have hz : x.length ≤ sizeLine := Nat.le_trans hx (by decide)
      refine q_when (!(decide ((0 : Int) < (x.length : Nat)) && decide (((x.length : Nat) : Int) < 9) && bigCap x)) (fun Q1 q1 => ?_) (fun hb H' e => ?_) (fun hb H' e => ?_)
      · walk_at "rd"
        refine ⟨_, rfl, isi1 (.str x) (kb_str (.str x)) ⟨_, rfl, ?_⟩⟩
        rw [if_neg (show ¬ (!tn (PyData.str x) == "str") = true by simp [tn])]
        refine ⟨_, rfl, x, rfl, hz, 0, _, rfl, rfl, _, rfl, ?_⟩
        refine ite_b (fun e1 => ?_) (fun e1 => ?_)
        · refine ⟨_, _, rfl, rfl, _, rfl, ?_⟩
          refine ite_b (fun e2 => ?_) (fun e2 => ?_)
          · have e3 : decide (((x.length : Nat) : Int) < 9) = false := by simpa using e2
            have := q1 H h0
            simp only [e3, Bool.and_false, Bool.false_and, Bool.not_false] at this
            exact this
          · have e3 : decide (((x.length : Nat) : Int) < 9) = true := by simpa using e2
            have hp : 0 < x.cps.size := by
              have e6 : (0 : Int) < (x.length : Nat) := of_decide_eq_true e1
              have e7 : x.length = x.cps.size := rfl
              omega
            have e6 : x.cps[0]? = some x.cps[0] := by simp [hp]
            have e7 : bigCap x = decide (x.cps[0] ∈ sCAPITALS.cps.toList) := by unfold bigCap; rw [e6]
            refine ⟨_, rfl, x, 0, x.cps[0], rfl, rfl, hz, atI_nat (j := 0) (by simp [hp]), _, _, rfl, rfl, _, rfl, ?_⟩
            have := q1 H h0
            rw [e1, e3, e7] at this
            simpa using this
        · refine ⟨_, rfl, ?_⟩
          refine iteT ?_
          have := q1 H h0
          simp only [e1, Bool.and_false, Bool.false_and, Bool.not_false] at this
          exact this
      · have e1 : varOk x = false := by
          unfold varOk
          simp only [Bool.not_eq_true'] at hb
          rw [hb]
          rfl
        have := k H' e
        rw [show isVr (.str x) = false from e1] at this
        exact this
      · have e1 : varOk x = figs x := by
          unfold varOk
          simp only [Bool.not_eq_false'] at hb
          rw [hb]
          rfl
        have hpos : 0 < x.length := by
          simp only [Bool.not_eq_false', Bool.and_eq_true, decide_eq_true_eq] at hb
          omega
        walk_at "rd"
        refine rd_lc ?_
        have ecut : (cutS x (some 1) none).cps.toList = x.cps.toList.drop 1 := by
          unfold cutS
          have h1 := HT.sIx_nat x.length 0 1
          rw [show ((1 : Nat) : Int) = 1 from rfl] at h1
          rw [h1, HT.sIx_none, Nat.min_eq_left (by omega)]
          show List.take (x.length - 1) (List.drop 1 x.cps.toList) = List.drop 1 x.cps.toList
          rw [List.take_of_length_le]
          rw [List.length_drop]
          show x.cps.toList.length - 1 ≤ x.cps.size - 1
          rw [Array.length_toList]
          exact Nat.le_refl _
        refine ⟨_, rfl, 1, rfl, x, rfl, hz, _, rfl, ?_⟩
        refine lcp (K := K) (N := no0) (tr0 _) src_str (by rw [ecut, List.length_drop, Array.length_toList]; exact Nat.le_trans (Nat.sub_le _ _) hx) (fun _ => true) (fun i => .bool (decide ((x.cps.toList.drop 1).getD i 0 ∈ sFIGURES.cps.toList))) (fun i v H2 N' Q2 Q3 hi e2 r tr hs2 q2 q3 => ?_) (fun Dl H2 ys nD e2 hy da => ?_)
        · obtain ⟨c, hc, rfl⟩ := r
          rw [ecut] at hc
          refine ⟨rfl, ?_⟩
          walk_at "rd"
          refine iteT ?_
          have ec : (x.cps.toList.drop 1).getD i 0 = c := by rw [List.getD_eq_getElem?_getD, hc]; rfl
          refine ⟨_, rfl, c, _, rfl, rfl, q2 _ _ (Same.refl _) rfl ?_⟩
          rw [ec]
          exact .bl _
        · rw [ecut] at da
          have ef : ((List.range (x.cps.toList.drop 1).length).filter (fun _ => true)).map (fun i => PyData.bool (decide ((x.cps.toList.drop 1).getD i 0 ∈ sFIGURES.cps.toList))) = ((List.range (x.cps.toList.drop 1).length).map fun i => decide ((x.cps.toList.drop 1).getD i 0 ∈ sFIGURES.cps.toList)).map PyData.bool := by
            rw [List.filter_eq_self.mpr (fun _ _ => rfl), List.map_map]
            rfl
          rw [ef] at da
          have ey := DpAll.bls da
          refine ⟨Dl, _, rfl, .inl (.inl (by rw [hy, ey])), ?_⟩
          rw [all_of rfl (fun c => decide (c ∈ sFIGURES.cps.toList))]
          show Q (.bl (figs x)) H2
          rw [← e1]
          exact k H2 (e.trans e2)
    · have hs' : (tn d == "str") = false := by simpa using hs
      refine q_when true (fun Q1 q1 => ?_) (fun hb H' e => ?_) (fun hb => nomatch hb)
      · walk_at "rd"
        refine ⟨_, rfl, isi1 hd (kb_str d) ⟨_, rfl, ?_⟩⟩
        rw [hs']
        exact q1 H h0
      · have e1 : isVr d = false := by
          cases d with
          | str x => simp [tn] at hs
          | _ => rfl
        rw [← e1]
        exact k H' e
end
end WD

-- text: WM
set_option Elab.async false
set_option linter.all false
set_option maxRecDepth 100000
set_option maxHeartbeats 4000000
/-! words: plain Lean -/
namespace WD
open PySem PySem.Spec
inductive T | v (x : Str) | n (x : Str) (ks : List T)
mutual
def T.dat : T → PyData
  | .v x => .str x
  | .n x ks => .tuple (.str x :: T.dats ks)
def T.dats : List T → List PyData
  | [] => []
  | k :: ks => k.dat :: T.dats ks
end
theorem T.dats_map : ∀ ks : List T, T.dats ks = ks.map T.dat
  | [] => rfl
  | k :: ks => by rw [T.dats, T.dats_map ks, List.map_cons]
mutual
def T.sz : T → Nat
  | .v _ => 1
  | .n _ ks => T.szs ks + 1
def T.szs : List T → Nat
  | [] => 0
  | k :: ks => k.sz + T.szs ks
end
mutual
def T.ht : T → Nat
  | .v _ => 0
  | .n _ ks => T.hts ks + 1
def T.hts : List T → Nat
  | [] => 0
  | k :: ks => max k.ht (T.hts ks)
end
theorem T.ht_mem : ∀ {ks : List T} {k : T}, k ∈ ks → k.ht ≤ T.hts ks
  | [], _, h => by cases h
  | a :: ks, k, h => by
    rw [T.hts]
    rcases List.mem_cons.mp h with rfl | h
    · omega
    · have := T.ht_mem h
      omega
theorem T.sz_mem : ∀ {ks : List T} {k : T}, k ∈ ks → k.sz ≤ T.szs ks
  | [], _, h => by cases h
  | a :: ks, k, h => by
    rw [T.szs]
    rcases List.mem_cons.mp h with rfl | h
    · omega
    · have := T.sz_mem h
      omega
def strOf : PyData → Str
  | .str x => x
  | _ => ""
mutual
/-- the word that the data is, read as as_word reads it -/
def asW : PyData → Option T
  | .str x => if varOk x = true then some (.v x) else none
  | .list (d :: ds) => if isNm d = true then (asWs ds).map (T.n (strOf d)) else none
  | .tuple (d :: ds) => if isNm d = true then (asWs ds).map (T.n (strOf d)) else none
  | _ => none
def asWs : List PyData → Option (List T)
  | [] => some []
  | d :: ds => match asW d, asWs ds with
    | some t, some ts => some (t :: ts)
    | _, _ => none
end
/-- a part, or None -/
def wOr (d : PyData) : PyData := match asW d with
  | some t => t.dat
  | none => .none
theorem dat_none (t : T) : PyData.eqv t.dat .none = false := by
  cases t <;> simp [T.dat, PyData.eqv]
theorem asWs_none : ∀ ds : List PyData, ((ds.map wOr).any fun z => PyData.eqv z .none) = !(asWs ds).isSome
  | [] => rfl
  | d :: ds => by
    rw [List.map_cons, List.any_cons, asWs_none ds, asWs]
    unfold wOr
    cases h : asW d with
    | none => simp [PyData.eqv]
    | some t =>
      rw [dat_none, Bool.false_or]
      cases asWs ds <;> rfl
theorem asWs_dats : ∀ {ds : List PyData} {ts : List T}, asWs ds = some ts → ds.map wOr = ts.map T.dat
  | [], ts, h => by
    cases h
    rfl
  | d :: ds, ts, h => by
    rw [asWs] at h
    cases h1 : asW d with
    | none => rw [h1] at h; cases h
    | some t =>
      cases h2 : asWs ds with
      | none => rw [h1, h2] at h; cases h
      | some us =>
        rw [h1, h2] at h
        cases h
        rw [List.map_cons, List.map_cons, asWs_dats h2]
        unfold wOr
        rw [h1]
mutual
/-- nothing in it is long -/
def okz : PyData → Bool
  | .str x => decide (x.length ≤ 1000) && PyData.strOk x
  | .list ds => decide (ds.length ≤ 1000) && okzs ds
  | .tuple ds => decide (ds.length ≤ 1000) && okzs ds
  | _ => true
def okzs : List PyData → Bool
  | [] => true
  | d :: ds => okz d && okzs ds
end
theorem okz_mem : ∀ {ds : List PyData} {d : PyData}, okzs ds = true → d ∈ ds → okz d = true
  | [], _, _, h => by cases h
  | a :: ds, d, h, hm => by
    rw [okzs, Bool.and_eq_true] at h
    rcases List.mem_cons.mp hm with rfl | hm
    · exact h.1
    · exact okz_mem h.2 hm
theorem depth_mem : ∀ {ds : List PyData} {d : PyData}, d ∈ ds → d.depth ≤ PyData.depthAll ds
  | [], _, h => by cases h
  | a :: ds, d, h => by
    rw [PyData.depthAll]
    rcases List.mem_cons.mp h with rfl | h
    · omega
    · have := depth_mem h
      omega
mutual
theorem asW_lay : ∀ (d : PyData) (t : T), okz d = true → asW d = some t → t.dat.canLay0 = true ∧ t.dat.depth ≤ d.depth
  | .str x, t, h, e => by
    rw [asW] at e
    by_cases q : varOk x = true
    · rw [if_pos q] at e
      cases e
      rw [okz, Bool.and_eq_true] at h
      simp [T.dat, PyData.canLay0, PyData.depth, h.2]
    · rw [if_neg q] at e
      cases e
  | .list (d :: ds), t, h, e => by
    rw [asW] at e
    rw [okz, okzs, Bool.and_eq_true, Bool.and_eq_true] at h
    obtain ⟨_, h1, h2⟩ := h
    by_cases q : isNm d = true
    · rw [if_pos q] at e
      cases h3 : asWs ds with
      | none => rw [h3] at e; cases e
      | some ts =>
        rw [h3] at e
        cases e
        obtain ⟨a, b⟩ := asWs_lay ds ts h2 h3
        cases d with
        | str x =>
          rw [okz, Bool.and_eq_true] at h1
          simp only [T.dat, strOf, PyData.canLay0, PyData.canLayAll0, PyData.depth, PyData.depthAll, a, h1.2]
          refine ⟨rfl, ?_⟩
          omega
        | _ => cases q
    · rw [if_neg q] at e
      cases e
  | .tuple (d :: ds), t, h, e => by
    rw [asW] at e
    rw [okz, okzs, Bool.and_eq_true, Bool.and_eq_true] at h
    obtain ⟨_, h1, h2⟩ := h
    by_cases q : isNm d = true
    · rw [if_pos q] at e
      cases h3 : asWs ds with
      | none => rw [h3] at e; cases e
      | some ts =>
        rw [h3] at e
        cases e
        obtain ⟨a, b⟩ := asWs_lay ds ts h2 h3
        cases d with
        | str x =>
          rw [okz, Bool.and_eq_true] at h1
          simp only [T.dat, strOf, PyData.canLay0, PyData.canLayAll0, PyData.depth, PyData.depthAll, a, h1.2]
          refine ⟨rfl, ?_⟩
          omega
        | _ => cases q
    · rw [if_neg q] at e
      cases e
  | .none, t, h, e => by simp [asW] at e
  | .bool _, t, h, e => by simp [asW] at e
  | .int _, t, h, e => by simp [asW] at e
  | .dict _, t, h, e => by simp [asW] at e
  | .list [], t, h, e => by simp [asW] at e
  | .tuple [], t, h, e => by simp [asW] at e
theorem asWs_lay : ∀ (ds : List PyData) (ts : List T), okzs ds = true → asWs ds = some ts → PyData.canLayAll0 (T.dats ts) = true ∧ PyData.depthAll (T.dats ts) ≤ PyData.depthAll ds
  | [], ts, _, e => by
    cases e
    simp [T.dats, PyData.canLayAll0, PyData.depthAll]
  | d :: ds, ts, h, e => by
    rw [okzs, Bool.and_eq_true] at h
    rw [asWs] at e
    cases h1 : asW d with
    | none => rw [h1] at e; cases e
    | some t =>
      cases h2 : asWs ds with
      | none => rw [h1, h2] at e; cases e
      | some us =>
        rw [h1, h2] at e
        cases e
        obtain ⟨a, b⟩ := asW_lay d t h.1 h1
        obtain ⟨c, f⟩ := asWs_lay ds us h.2 h2
        simp only [T.dats, PyData.canLayAll0, PyData.depthAll, a, c]
        refine ⟨rfl, ?_⟩
        omega
end
theorem wOr_lay {d : PyData} (h : okz d = true) : (wOr d).canLay0 = true ∧ (wOr d).depth ≤ d.depth := by
  unfold wOr
  cases e : asW d with
  | none => simp [PyData.canLay0, PyData.depth]
  | some t => exact asW_lay d t h e
theorem wOrs_shaped {ds : List PyData} (h : okzs ds = true) (hd : PyData.depthAll ds ≤ 60) : SeqAt.shaped (.list (ds.map wOr)) = true := by
  have h1 : ∀ ds : List PyData, okzs ds = true → PyData.canLayAll0 (ds.map wOr) = true ∧ PyData.depthAll (ds.map wOr) ≤ PyData.depthAll ds := fun ds => by
    induction ds with
    | nil => intro _; simp [PyData.canLayAll0, PyData.depthAll]
    | cons d ds ih =>
      intro h
      rw [okzs, Bool.and_eq_true] at h
      obtain ⟨a, b⟩ := wOr_lay h.1
      obtain ⟨c, f⟩ := ih h.2
      simp only [List.map_cons, PyData.canLayAll0, PyData.depthAll, a, c]
      refine ⟨rfl, ?_⟩
      omega
  obtain ⟨a, b⟩ := h1 ds h
  show (PyData.canLay0 (.list (ds.map wOr)) && decide (PyData.depth (.list (ds.map wOr)) ≤ 64)) = true
  have e1 : PyData.canLay0 (.list (ds.map wOr)) = true := by simp [PyData.canLay0, a]
  rw [e1, Bool.true_and]
  refine decide_eq_true ?_
  simp only [PyData.depth]
  omega
end WD

-- text: W3
set_option Elab.async false
set_option linter.all false
set_option maxRecDepth 100000
set_option maxHeartbeats 4000000
namespace WD
open PySem PySem.Spec PyProof.Rows L2 GB GL
open DB hiding isi1 isiT
local macro_rules | `(tactic| walk_at "rd") => `(tactic| (dsimp only [cxOf, Cx.nox, L2.start, tRet, tRetN, tCB, tCons, tNil, tC, tVar, tTup, tLst, tB, tTest, tAnd, tOr, tNot, tAndV, tOrV, tNotV, tIfS, tIf, tSeq, tNext, tDrop, tOp, tUn, tAsg, gName, gSub, tSl, tPart, tNoPart, tCall, tPar, tBM, tChain, tYes, StX.tStar, tFld, tNotN, tIsN, tDNotIn, tDIn, tDGet, tDGet2, tDNewK, gTup, gCons, gNil, tLockE, iKeys, XR.iZipTN, sFld, sDPut, iEnum, XR.iEnumK, XR.iEnumT, iList, RZ.iZipA, iTup, iRng1, iRng2, tMake, tPar3, tRevL, XR.tTwo3, List.length_cons, List.length_nil, List.set_cons_zero, List.set_cons_succ, List.nil_append, List.cons_append, List.append_nil]))
section
variable {P : Program} {w : World} {K : PySem.W.Frag} {mg : Str → Option Value} {base : Heap}
abbrev st_as_word : Stmt := top 27
theorem sc_as_word : FnScope ["thing", "parts", "one"] ["thing"] (defScope st_as_word) := ⟨rfl, rfl, rfl, by decide +kernel, rfl, by decide +kernel, by decide +kernel⟩

def headOk : List PyData → Bool
  | [] => false
  | d :: _ => isNm d
def spAsWord (K : PySem.W.Frag) (n : Nat) : Sp := fun vs H Q _ => ∃ N v d, vs = [v] ∧ Tr N H ∧ DE K (hide N H) v d ∧ okz d = true ∧ d.depth < n ∧ ∀ v' H', Same H H' → (match asW d with | some t => Dp K (hide N H') v' t.dat | none => v' = .non) → Q v' H'
theorem ok_as_word (G : Glob K mg) (D : Def K mg "as_word" st_as_word ["thing"]) (c_is_variable0 : Callee P w K mg base 1 "is_variable" ["thing"] (spIsVariable K)) (c_is_list0 : Callee P w K mg base 1 "is_list" ["thing"] (spIsList K)) (c_is_name0 : Callee P w K mg base 1 "is_name" ["thing"] (spIsName K)) : ∀ n, n ≤ 60 → Callee P w K mg base (n + 1) "as_word" ["thing"] (spAsWord K n)
  | 0, _ => by
    obtain ⟨f, fd, F, b, m⟩ := D.ex
    refine ⟨f, fd, F.ok sc_as_word (fun vs H Q E h => ?_) (fun cdv A outer s H vs Q E hr h => ?_), b, F.kp, m⟩
    · obtain ⟨N, v, d, rfl, _⟩ := h
      rfl
    · obtain ⟨N, v, d, rfl, _, _, _, h, _⟩ := h
      exact absurd h (Nat.not_lt_zero _)
  | n + 1, hn60 => by
    have c_as_word := ok_as_word G D c_is_variable0 c_is_list0 c_is_name0 n (by omega)
    have c_is_variable := c_is_variable0
    have c_is_list := c_is_list0
    have c_is_name := c_is_name0
    obtain ⟨f, fd, F, b, m⟩ := D.ex
    have z_len := G.len
    refine ⟨f, fd, F.ok sc_as_word (fun vs H Q E h => ?_) (fun cdv A outer s H vs Q E hr h => ?_), b, F.kp, m⟩
    · obtain ⟨N, v, d, rfl, _⟩ := h
      rfl
    obtain ⟨N, v, d, rfl, hN, hd, hz, hdp, k⟩ := h
    have hr_as_word := hr
    have hr_is_variable := hr.mono (show 1 ≤ n + 1 by omega)
    have hr_is_list := hr.mono (show 1 ≤ n + 1 by omega)
    have hr_is_name := hr.mono (show 1 ≤ n + 1 by omega)
    have hu65 : (A.deeper (envOfC "as_word" (defScope st_as_word) s.heap.objs.size f cdv)).units + 65 < cLine := by have := hr.un; omega
    have hd1 : DE K H v d := DE.same hide_same hd
    have hlen : ∀ x, d = .str x → x.length ≤ 100000 := fun x e => by
      subst e
      rw [okz, Bool.and_eq_true] at hz
      have := of_decide_eq_true hz.1
      omega
    -- what is no list, and what is empty
    have plain : (isVr d = true ∨ (tn d == "list" || tn d == "tuple") = false) → ∃ t, PSs (cxOf CX0 P w K mg base ["thing", "parts", "one"] "as_word" (defScope st_as_word) f cdv A outer s H E).nox (defBody st_as_word) t ∧ t { nx := fun _ H' => Q .non H', rt := Q } (L2.start ["thing", "parts", "one"] [v]) H := by
      intro hcase
      refine ⟨_, (pss_cons (ps_if (pt_val (pe_own c_is_variable hr_is_variable rfl (pa_cons (pv 0) pa_nil))) (pss_one (ps_ret (pv 0))) pss_nil) (pss_cons (ps_if (PW.pt (pw_or (pt_not (pt_val (pe_own c_is_list hr_is_list rfl (pa_cons (pv 0) pa_nil)))) (pw_or (pt_cmpR op_eq (pe_callB call_len_seq rfl z_len PySem.boot_len (pa_cons (pv 0) pa_nil)) pe_int (nomark _)) (pw_or1 (pt_not (pt_val (pe_own c_is_name hr_is_name rfl (pa_cons (pe_ix ix_tup (pv 0) pe_int (fun _ _ => rfl)) pa_nil)))))))) (pss_one (ps_ret pe_non)) pss_nil) (pss_cons (ps_setLc (i := 1) (own := [("one", 2)]) (g := (gName 2)) (tt := tYes) rfl sc_as_word.nd rfl rfl (sw_true rfl rfl rfl (by decide +kernel)) (pi_tup (pe_slice sl_tupA (pv 0) (po_some pe_int) po_none)) (blkOk_by (N := ["thing", "parts", "one"]) (sc := defScope st_as_word) (by decide +kernel)) (fun _ _ _ _ _ => (pg_name (i := 2) sc_as_word.nd rfl (Or.inl rfl))) (fun _ _ _ _ _ => pts_nil) (fun _ _ _ _ _ => (pe_own c_as_word hr_as_word rfl (pa_cons (pv 2) pa_nil)))) (pss_one (ps_ret (pe_ifExp (pt_cmpR (op_notInD hu65) pe_non (pv 1) (by with_unfolding_all rfl)) (pe_tup (pa_cons (pe_ix ix_tup (pv 0) pe_int (fun _ _ => rfl)) (StX.pa_star (pv 1) pa_nil))) pe_non)))))), ?_⟩
      refine q_when (isVr d) (fun Q1 q1 => ?_) (fun hb H1 e1 => ?_) (fun hb H1 e1 => ?_)
      · walk_at "rd"
        exact ⟨_, rfl, v, d, rfl, hd1, hlen, fun H' e => ⟨_, rfl, q1 H' e⟩⟩
      · walk_at "rd"
        refine ⟨_, rfl, k v H1 e1 ?_⟩
        cases d with
        | str x =>
          have hx : varOk x = true := hb
          have : asW (.str x) = some (.v x) := by rw [asW, if_pos hx]
          rw [this]
          cases hd
          exact .str x
        | _ => cases hb
      · have hl := hcase.resolve_left (by rw [hb]; exact Bool.false_ne_true)
        refine q_when true (fun Q1 q1 => ?_) (fun _ H2 e2 => ?_) (fun hb => nomatch hb)
        · walk_at "rd"
          refine ⟨_, rfl, v, d, rfl, DE.same e1 hd1, fun H' e => ⟨_, rfl, ?_⟩⟩
          rw [hl]
          exact iteT (q1 H' e)
        · walk_at "rd"
          refine k .non H2 (e1.trans e2) ?_
          have : asW d = none := by
            cases d with
            | str x =>
              have hx : varOk x = false := hb
              rw [asW, if_neg (by rw [hx]; exact Bool.false_ne_true)]
            | list ds => simp [tn] at hl
            | tuple ds => simp [tn] at hl
            | _ => simp [asW]
          rw [this]
    by_cases hcase : isVr d = true ∨ (tn d == "list" || tn d == "tuple") = false
    · exact plain hcase
    have hv0 : isVr d = false := by
      cases q : isVr d with
      | false => rfl
      | true => exact absurd (.inl q) hcase
    cases hd with
    | @lst a xs ds0 hs ha =>
      have hsv : ∀ H', Same H H' → SqL K H' a xs := fun H' e => e.seq (hide_same.seq hs)
      have lxs : xs.length = ds0.length := DEs.length ha
      have htn : (tn (.list ds0) == "list" || tn (.list ds0) == "tuple") = true := by simp [tn]
      refine ⟨_, (pss_cons (ps_if (pt_val (pe_own c_is_variable hr_is_variable rfl (pa_cons (pv 0) pa_nil))) (pss_one (ps_ret (pv 0))) pss_nil) (pss_cons (ps_if (PW.pt (pw_or (pt_not (pt_val (pe_own c_is_list hr_is_list rfl (pa_cons (pv 0) pa_nil)))) (pw_or (pt_cmpR op_eq (pe_callB call_len_seq rfl z_len PySem.boot_len (pa_cons (pv 0) pa_nil)) pe_int (nomark _)) (pw_or1 (pt_not (pt_val (pe_own c_is_name hr_is_name rfl (pa_cons (pe_ix ix_list (pv 0) pe_int (fun _ _ => rfl)) pa_nil)))))))) (pss_one (ps_ret pe_non)) pss_nil) (pss_cons (ps_setLc (i := 1) (own := [("one", 2)]) (g := (gName 2)) (tt := tYes) rfl sc_as_word.nd rfl rfl (sw_true rfl rfl rfl (by decide +kernel)) (pi_list (pe_slice sl_list (pv 0) (po_some pe_int) po_none)) (blkOk_by (N := ["thing", "parts", "one"]) (sc := defScope st_as_word) (by decide +kernel)) (fun _ _ _ _ _ => (pg_name (i := 2) sc_as_word.nd rfl (Or.inl rfl))) (fun _ _ _ _ _ => pts_nil) (fun _ _ _ _ _ => (pe_own c_as_word hr_as_word rfl (pa_cons (pv 2) pa_nil)))) (pss_one (ps_ret (pe_ifExp (pt_cmpR (op_notInD hu65) pe_non (pv 1) (by with_unfolding_all rfl)) (pe_tup (pa_cons (pe_ix ix_list (pv 0) pe_int (fun _ _ => rfl)) (StX.pa_star (pv 1) pa_nil))) pe_non)))))), ?_⟩
      refine q_when false (fun Q1 q1 => ?_) (fun hb => nomatch hb) (fun _ H1 e1 => ?_)
      · walk_at "rd"
        refine ⟨_, rfl, _, .list ds0, rfl, hd1, hlen, fun H' e => ⟨_, rfl, ?_⟩⟩
        rw [hv0]
        exact q1 H' e
      have hs1 := hsv H1 e1
      refine q_when (!headOk ds0) (fun Q1 q1 => ?_) (fun hb H2 e2 => ?_) (fun hb H2 e2 => ?_)
      · walk_at "rd"
        refine ⟨_, rfl, _, .list ds0, rfl, DE.same e1 hd1, fun H' e => ⟨_, rfl, ?_⟩⟩
        rw [htn]
        refine iteF ?_
        have hs2 := hsv H' (e1.trans e)
        refine ⟨_, rfl, a, xs, rfl, .inl hs2, rfl, _, rfl, ?_⟩
        cases ha with
        | nil =>
          refine iteT ?_
          exact q1 H' e
        | @cons v0 xs' d0 ds h0 hds =>
          rw [show decide (V.int (((v0 :: xs').length : Nat) : Int) = V.int 0) = false from decide_eq_false fun q => by
            have := V.int.inj q
            rw [List.length_cons] at this
            omega]
          refine iteF ?_
          refine ⟨_, rfl, a, _, 0, _, rfl, rfl, hs2, atI_nat (j := 0) rfl, ?_⟩
          refine ⟨_, d0, rfl, DE.same (hide_same.trans (e1.trans e)) h0, fun x q => ?_, fun H5 e5 => ⟨_, rfl, q1 H5 (e.trans e5)⟩⟩
          subst q
          have hm := okz_mem (ds := PyData.str x :: ds) (by rw [okz, Bool.and_eq_true] at hz; exact hz.2) (List.mem_cons_self ..)
          rw [okz, Bool.and_eq_true] at hm
          have := of_decide_eq_true hm.1
          omega
      · walk_at "rd"
        refine k .non H2 (e1.trans e2) ?_
        have : asW (.list ds0) = none := by
          cases ds0 with
          | nil => simp [asW]
          | cons d0 ds =>
            have h9 : isNm d0 = false := by simpa [headOk] using hb
            rw [asW, if_neg (by rw [h9]; exact Bool.false_ne_true)]
        rw [this]
      have s2 := e1.trans e2
      have hs2 := hsv H2 s2
      cases ha with
      | nil => cases hb
      | @cons v0 xs' d0 ds h0 hds =>
      have hnm0 : isNm d0 = true := by simpa [headOk] using hb
      obtain ⟨x, rfl⟩ : ∃ x, d0 = .str x := by
        cases d0 with
        | str x => exact ⟨x, rfl⟩
        | _ => cases hnm0
      have hnm : isNm (.str x) = true := hnm0
      cases h0
      rw [okz, Bool.and_eq_true] at hz
      have hz1 := of_decide_eq_true hz.1
      have hz2 : okzs ds = true := by have := hz.2; rw [okzs, Bool.and_eq_true] at this; exact this.2
      have hdd : PyData.depthAll ds < n := by
        rw [PyData.depth, PyData.depthAll] at hdp
        omega
      have ldx : xs'.length = ds.length := DEs.length hds
      rw [List.length_cons] at hz1
      refine q_seq (fun σ' H' => ∃ l ys, σ' = [some (.ref a), some (.ref l), none] ∧ Same H H' ∧ H' l = some (.lst ys) ∧ DpAll K (hide N H') ys (ds.map wOr)) (fun Z z => ?_) (fun σ3 H3 hp3 => ?_)
      · walk_at "rd"
        refine rd_lc ?_
        refine ⟨_, rfl, 1, rfl, a, _, rfl, hs2, fun p hp => ?_⟩
        rw [cut1]
        refine ⟨p, rfl, ⟨_, .inl (.inl upd_same)⟩, ?_⟩
        have sX : Same H (upd H2 p (.lst xs')) := s2.trans (same_new hp _)
        refine lcp (K := K) (N := N) (hN.same sX) (src_list (.inl (.inl upd_same))) (by omega) (fun _ => true) (fun i => wOr (ds.getD i .none)) (fun i y Hq N7 Q2 Q3 hq e7 r7 tr7 hs7 q2 q3 => ?_) (fun Dl Hq ys7 nD e7 hy7 da => ?_)
        · obtain ⟨d7, hd7, hy7⟩ := DEs.get (DEs.same ((hide_mono sX).trans hs7) hds) r7
          have hm7 := List.mem_of_getElem? hd7
          have dm := depth_mem hm7
          walk_at "rd"
          refine ⟨rfl, iteT ?_⟩
          refine ⟨_, rfl, N7, y, d7, rfl, tr7, hy7, okz_mem hz2 hm7, by omega, fun v' H' e' hv => q2 _ _ e' rfl ?_⟩
          rw [List.getD_eq_getElem?_getD, hd7]
          show Dp K (hide N7 H') v' (wOr d7)
          unfold wOr
          cases h9 : asW d7 with
          | none => rw [h9] at hv; cases hv; exact .non
          | some t => rw [h9] at hv; exact hv
        · have ed := map_range ds wOr .none
          rw [ldx, ed] at da
          exact z _ _ ⟨Dl, ys7, rfl, sX.trans e7, hy7, da⟩
      obtain ⟨l, ys, rfl, s3, hl3, d3⟩ := hp3
      walk_at "rd"
      have d3' : Dp K H3 (.ref l) (.list (ds.map wOr)) := .lst (.inl (.inl hl3)) (DpAll.same hide_same d3)
      refine ⟨_, rfl, .none, _, .non, d3', by decide, wOrs_shaped hz2 (by omega), _, rfl, ?_⟩
      rw [asWs_none, Bool.not_not]
      have kk := k
      have easW : asW (.list (.str x :: ds)) = (asWs ds).map (T.n x) := by
        rw [asW, if_pos hnm]
        rfl
      rw [easW] at kk
      cases hA : asWs ds with
      | none =>
        rw [hA] at kk
        refine iteF ?_
        exact kk _ _ s3 rfl
      | some ts =>
        rw [hA] at kk
        refine iteT ?_
        refine ⟨_, rfl, a, _, 0, _, rfl, rfl, hsv H3 s3, atI_nat (j := 0) rfl, ?_⟩
        have ly : ys.length = ds.length := by have := DpAll.length d3; rw [List.length_map] at this; exact this
        refine ⟨_, rfl, l, ys, rfl, .inr (.inl (.inl hl3)), ?_, fun q hq => ?_⟩
        · rw [List.append_nil]
          exact Nat.le_trans (show ys.length + 1 ≤ 2000 by omega) (by decide)
        · refine kk _ _ (s3.trans (same_new hq _)) ?_
          rw [asWs_dats hA] at d3
          show Dp K _ (.ref q) (.tuple (.str x :: T.dats ts))
          rw [T.dats_map]
          exact .tup (.inl (.inl (by rw [hide_upd ((hN.same s3).off hq), List.append_nil]))) (.cons (.str _) (DpAll.same (hide_mono (same_new hq _)) d3))
    | @tup a xs ds0 hs ha =>
      have hsv : ∀ H', Same H H' → SqT K H' a xs := fun H' e => Same.tupL e (Same.tupL hide_same hs)
      have lxs : xs.length = ds0.length := DEs.length ha
      have htn : (tn (.tuple ds0) == "list" || tn (.tuple ds0) == "tuple") = true := by simp [tn]
      refine ⟨_, (pss_cons (ps_if (pt_val (pe_own c_is_variable hr_is_variable rfl (pa_cons (pv 0) pa_nil))) (pss_one (ps_ret (pv 0))) pss_nil) (pss_cons (ps_if (PW.pt (pw_or (pt_not (pt_val (pe_own c_is_list hr_is_list rfl (pa_cons (pv 0) pa_nil)))) (pw_or (pt_cmpR op_eq (pe_callB call_len_seq rfl z_len PySem.boot_len (pa_cons (pv 0) pa_nil)) pe_int (nomark _)) (pw_or1 (pt_not (pt_val (pe_own c_is_name hr_is_name rfl (pa_cons (pe_ix ix_tup (pv 0) pe_int (fun _ _ => rfl)) pa_nil)))))))) (pss_one (ps_ret pe_non)) pss_nil) (pss_cons (ps_setLc (i := 1) (own := [("one", 2)]) (g := (gName 2)) (tt := tYes) rfl sc_as_word.nd rfl rfl (sw_true rfl rfl rfl (by decide +kernel)) (pi_tup (pe_slice sl_tupA (pv 0) (po_some pe_int) po_none)) (blkOk_by (N := ["thing", "parts", "one"]) (sc := defScope st_as_word) (by decide +kernel)) (fun _ _ _ _ _ => (pg_name (i := 2) sc_as_word.nd rfl (Or.inl rfl))) (fun _ _ _ _ _ => pts_nil) (fun _ _ _ _ _ => (pe_own c_as_word hr_as_word rfl (pa_cons (pv 2) pa_nil)))) (pss_one (ps_ret (pe_ifExp (pt_cmpR (op_notInD hu65) pe_non (pv 1) (by with_unfolding_all rfl)) (pe_tup (pa_cons (pe_ix ix_tup (pv 0) pe_int (fun _ _ => rfl)) (StX.pa_star (pv 1) pa_nil))) pe_non)))))), ?_⟩
      refine q_when false (fun Q1 q1 => ?_) (fun hb => nomatch hb) (fun _ H1 e1 => ?_)
      · walk_at "rd"
        refine ⟨_, rfl, _, .tuple ds0, rfl, hd1, hlen, fun H' e => ⟨_, rfl, ?_⟩⟩
        rw [hv0]
        exact q1 H' e
      have hs1 := hsv H1 e1
      refine q_when (!headOk ds0) (fun Q1 q1 => ?_) (fun hb H2 e2 => ?_) (fun hb H2 e2 => ?_)
      · walk_at "rd"
        refine ⟨_, rfl, _, .tuple ds0, rfl, DE.same e1 hd1, fun H' e => ⟨_, rfl, ?_⟩⟩
        rw [htn]
        refine iteF ?_
        have hs2 := hsv H' (e1.trans e)
        refine ⟨_, rfl, a, xs, rfl, .inr hs2, rfl, _, rfl, ?_⟩
        cases ha with
        | nil =>
          refine iteT ?_
          exact q1 H' e
        | @cons v0 xs' d0 ds h0 hds =>
          rw [show decide (V.int (((v0 :: xs').length : Nat) : Int) = V.int 0) = false from decide_eq_false fun q => by
            have := V.int.inj q
            rw [List.length_cons] at this
            omega]
          refine iteF ?_
          refine ⟨_, rfl, a, _, 0, _, rfl, rfl, hs2, atI_nat (j := 0) rfl, ?_⟩
          refine ⟨_, d0, rfl, DE.same (hide_same.trans (e1.trans e)) h0, fun x q => ?_, fun H5 e5 => ⟨_, rfl, q1 H5 (e.trans e5)⟩⟩
          subst q
          have hm := okz_mem (ds := PyData.str x :: ds) (by rw [okz, Bool.and_eq_true] at hz; exact hz.2) (List.mem_cons_self ..)
          rw [okz, Bool.and_eq_true] at hm
          have := of_decide_eq_true hm.1
          omega
      · walk_at "rd"
        refine k .non H2 (e1.trans e2) ?_
        have : asW (.tuple ds0) = none := by
          cases ds0 with
          | nil => simp [asW]
          | cons d0 ds =>
            have h9 : isNm d0 = false := by simpa [headOk] using hb
            rw [asW, if_neg (by rw [h9]; exact Bool.false_ne_true)]
        rw [this]
      have s2 := e1.trans e2
      have hs2 := hsv H2 s2
      cases ha with
      | nil => cases hb
      | @cons v0 xs' d0 ds h0 hds =>
      have hnm0 : isNm d0 = true := by simpa [headOk] using hb
      obtain ⟨x, rfl⟩ : ∃ x, d0 = .str x := by
        cases d0 with
        | str x => exact ⟨x, rfl⟩
        | _ => cases hnm0
      have hnm : isNm (.str x) = true := hnm0
      cases h0
      rw [okz, Bool.and_eq_true] at hz
      have hz1 := of_decide_eq_true hz.1
      have hz2 : okzs ds = true := by have := hz.2; rw [okzs, Bool.and_eq_true] at this; exact this.2
      have hdd : PyData.depthAll ds < n := by
        rw [PyData.depth, PyData.depthAll] at hdp
        omega
      have ldx : xs'.length = ds.length := DEs.length hds
      rw [List.length_cons] at hz1
      refine q_seq (fun σ' H' => ∃ l ys, σ' = [some (.ref a), some (.ref l), none] ∧ Same H H' ∧ H' l = some (.lst ys) ∧ DpAll K (hide N H') ys (ds.map wOr)) (fun Z z => ?_) (fun σ3 H3 hp3 => ?_)
      · walk_at "rd"
        refine rd_lc ?_
        refine ⟨_, rfl, 1, rfl, a, _, rfl, hs2, fun q => absurd q (cut1_ne _ _), fun _ p hp => ?_⟩
        rw [cut1]
        refine ⟨p, rfl, ⟨_, .inl (.inl upd_same)⟩, ?_⟩
        have sX : Same H (upd H2 p (.tup xs')) := s2.trans (same_new hp _)
        refine lcp (K := K) (N := N) (hN.same sX) (src_tup (.inl (.inl upd_same))) (by omega) (fun _ => true) (fun i => wOr (ds.getD i .none)) (fun i y Hq N7 Q2 Q3 hq e7 r7 tr7 hs7 q2 q3 => ?_) (fun Dl Hq ys7 nD e7 hy7 da => ?_)
        · obtain ⟨d7, hd7, hy7⟩ := DEs.get (DEs.same ((hide_mono sX).trans hs7) hds) r7
          have hm7 := List.mem_of_getElem? hd7
          have dm := depth_mem hm7
          walk_at "rd"
          refine ⟨rfl, iteT ?_⟩
          refine ⟨_, rfl, N7, y, d7, rfl, tr7, hy7, okz_mem hz2 hm7, by omega, fun v' H' e' hv => q2 _ _ e' rfl ?_⟩
          rw [List.getD_eq_getElem?_getD, hd7]
          show Dp K (hide N7 H') v' (wOr d7)
          unfold wOr
          cases h9 : asW d7 with
          | none => rw [h9] at hv; cases hv; exact .non
          | some t => rw [h9] at hv; exact hv
        · have ed := map_range ds wOr .none
          rw [ldx, ed] at da
          exact z _ _ ⟨Dl, ys7, rfl, sX.trans e7, hy7, da⟩
      obtain ⟨l, ys, rfl, s3, hl3, d3⟩ := hp3
      walk_at "rd"
      have d3' : Dp K H3 (.ref l) (.list (ds.map wOr)) := .lst (.inl (.inl hl3)) (DpAll.same hide_same d3)
      refine ⟨_, rfl, .none, _, .non, d3', by decide, wOrs_shaped hz2 (by omega), _, rfl, ?_⟩
      rw [asWs_none, Bool.not_not]
      have kk := k
      have easW : asW (.tuple (.str x :: ds)) = (asWs ds).map (T.n x) := by
        rw [asW, if_pos hnm]
        rfl
      rw [easW] at kk
      cases hA : asWs ds with
      | none =>
        rw [hA] at kk
        refine iteF ?_
        exact kk _ _ s3 rfl
      | some ts =>
        rw [hA] at kk
        refine iteT ?_
        refine ⟨_, rfl, a, _, 0, _, rfl, rfl, hsv H3 s3, atI_nat (j := 0) rfl, ?_⟩
        have ly : ys.length = ds.length := by have := DpAll.length d3; rw [List.length_map] at this; exact this
        refine ⟨_, rfl, l, ys, rfl, .inr (.inl (.inl hl3)), ?_, fun q hq => ?_⟩
        · rw [List.append_nil]
          exact Nat.le_trans (show ys.length + 1 ≤ 2000 by omega) (by decide)
        · refine kk _ _ (s3.trans (same_new hq _)) ?_
          rw [asWs_dats hA] at d3
          show Dp K _ (.ref q) (.tuple (.str x :: T.dats ts))
          rw [T.dats_map]
          exact .tup (.inl (.inl (by rw [hide_upd ((hN.same s3).off hq), List.append_nil]))) (.cons (.str _) (DpAll.same (hide_mono (same_new hq _)) d3))
    | _ => exact absurd (.inr rfl) hcase
end
end WD

-- text: W4
set_option Elab.async false
set_option linter.all false
set_option maxRecDepth 100000
set_option maxHeartbeats 400000
namespace WD
open PySem PySem.Spec PyProof.Rows L2 GB GL
open DB hiding isi1 isiT
local macro_rules | `(tactic| walk_at "rd") => `(tactic| (dsimp only [cxOf, Cx.nox, L2.start, tRet, tRetN, tCB, tCons, tNil, tC, tVar, tTup, tLst, tB, tTest, tAnd, tOr, tNot, tAndV, tOrV, tNotV, tIfS, tIf, tSeq, tNext, tDrop, tOp, tUn, tAsg, gName, gSub, tSl, tPart, tNoPart, tCall, tPar, tBM, tChain, tYes, StX.tStar, tFld, tNotN, tIsN, tDNotIn, tDIn, tDGet, tDGet2, tDNewK, gTup, gCons, gNil, tLockE, iKeys, XR.iZipTN, sFld, sDPut, iEnum, XR.iEnumK, XR.iEnumT, iList, RZ.iZipA, iTup, iRng1, iRng2, tMake, tPar3, tRevL, XR.tTwo3, List.length_cons, List.length_nil, List.set_cons_zero, List.set_cons_succ, List.nil_append, List.cons_append, List.append_nil]))
section
variable {P : Program} {w : World} {K : PySem.W.Frag} {mg : Str → Option Value} {base : Heap}
abbrev st_as_atom : Stmt := top 28
theorem sc_as_atom : FnScope ["thing", "parts", "found", "one"] ["thing"] (defScope st_as_atom) := ⟨rfl, rfl, rfl, by decide +kernel, rfl, by decide +kernel, by decide +kernel⟩

def sEq : Str := "="
def isEq : List PyData → Bool
  | [.str x, _, _] => decide (x = sEq)
  | _ => false
def eqOf : PyData → Bool
  | .list ds => isEq ds
  | .tuple ds => isEq ds
  | _ => false
def partsOf : PyData → List PyData
  | .list ds => ds.drop 1
  | .tuple ds => ds.drop 1
  | _ => []
/-- as as_atom reads it -/
def asA (d : PyData) : Option T := if eqOf d = true then (asWs (partsOf d)).map (T.n sEq) else match asW d with
  | some (.n x ks) => some (.n x ks)
  | _ => none
theorem isEq_ex {ds : List PyData} (h : isEq ds = true) : ∃ d1 d2, ds = [.str sEq, d1, d2] := by
  match ds, h with
  | [.str x, d1, d2], h =>
    have := of_decide_eq_true h
    subst this
    exact ⟨d1, d2, rfl⟩
def spAsAtom (K : PySem.W.Frag) (n : Nat) : Sp := fun vs H Q _ => ∃ N v d, vs = [v] ∧ Tr N H ∧ DE K (hide N H) v d ∧ okz d = true ∧ d.depth < n ∧ ∀ v' H', Same H H' → (match asA d with | some t => Dp K (hide N H') v' t.dat | none => v' = .non) → Q v' H'
/-- the test of as_atom -/
def tAtom : PyData → Bool := eqOf

theorem three {K : PySem.W.Frag} {h : Hp} : ∀ {xs : List V} {ds : List PyData}, DEs K h xs ds → ds.length = 3 → ∃ x0 x1 x2 d0 d1 d2, xs = [x0, x1, x2] ∧ ds = [d0, d1, d2] ∧ DE K h x0 d0 ∧ DEs K h [x1, x2] [d1, d2]
  | [x0, x1, x2], [d0, d1, d2], .cons a b, _ => ⟨x0, x1, x2, d0, d1, d2, rfl, rfl, a, b⟩
  | [], [], _, h => by simp at h
  | [_], [_], _, h => by simp at h
  | [_, _], [_, _], _, h => by simp at h
  | _ :: _ :: _ :: _ :: _, _ :: _ :: _ :: _ :: _, _, h => by simp at h
theorem ok_as_atom (G : Glob K mg) (D : Def K mg "as_atom" st_as_atom ["thing"]) {n : Nat} (hn : n ≤ 59) (c_is_list : Callee P w K mg base 1 "is_list" ["thing"] (spIsList K)) (c_as_word : Callee P w K mg base (n + 1) "as_word" ["thing"] (spAsWord K n)) : Callee P w K mg base (n + 2) "as_atom" ["thing"] (spAsAtom K n) := by
  obtain ⟨f, fd, F, b, m⟩ := D.ex
  have z_len := G.len
  have z_isinstance := G.isinstance
  have z_str := G.str
  have z_tuple := G.tuple
  refine ⟨f, fd, F.ok sc_as_atom (fun vs H Q E h => ?_) (fun cdv A outer s H vs Q E hr h => ?_), b, F.kp, m⟩
  · obtain ⟨N, v, d, rfl, _⟩ := h
    rfl
  obtain ⟨N, v, d, rfl, hN, hd, hz, hdp, k⟩ := h
  have hr_as_word := hr
  have hr_is_list := hr.mono (show 1 ≤ n + 1 by omega)
  have hu65 : (A.deeper (envOfC "as_atom" (defScope st_as_atom) s.heap.objs.size f cdv)).units + 65 < cLine := by have := hr.un; omega
  have hd1 : DE K H v d := DE.same hide_same hd
  -- found = as_word(thing); return found if isinstance(found, tuple) else None
  have rest : eqOf d = false → ∀ (H1 : Hp), Same H H1 → ∀ (D : Ends), D.rt = Q → tSeq (tAsg (tCall (spAsWord K n) [] E0 (tCons (tVar 0) tNil)) (gName 2)) (tRet (tIf (tB (tCB (rIsi K) (tCons (tVar 2) (tCons (tC (.ty "tuple")) tNil)))) (tVar 2) (tC .non))) D [some v, none, none, none] H1 := by
    intro he H1 e1 D hD
    have kA : asA d = match asW d with
      | some (.n x ks) => some (.n x ks)
      | _ => none := by unfold asA; rw [if_neg (by rw [he]; exact Bool.false_ne_true)]
    rw [kA] at k
    walk_at "rd"
    refine ⟨_, rfl, N, v, d, rfl, hN.same e1, DE.same (hide_mono e1) hd, hz, hdp, fun v' H' e' hv => ?_⟩
    cases hA : asW d with
    | none =>
      rw [hA] at hv k
      cases hv
      refine ⟨_, rfl, isi1 (K := K) .non (kb_tuple .none) ⟨_, rfl, ?_⟩⟩
      refine iteF ?_
      rw [hD]
      exact k _ _ (e1.trans e') rfl
    | some t =>
      rw [hA] at hv k
      cases t with
      | v x =>
        cases hv
        refine ⟨_, rfl, isi1 (K := K) (.str x) (kb_tuple (.str x)) ⟨_, rfl, ?_⟩⟩
        refine iteF ?_
        rw [hD]
        exact k _ _ (e1.trans e') rfl
      | n x ks =>
        refine ⟨_, rfl, isi1 (K := K) (DE.of (Dp.same hide_same hv)) (kb_tuple _) ⟨_, rfl, ?_⟩⟩
        refine iteT ?_
        refine ⟨_, rfl, ?_⟩
        rw [hD]
        exact k _ _ (e1.trans e') hv

  -- what is no list
  have plain : (tn d == "list" || tn d == "tuple") = false → eqOf d = false → ∃ t, PSs (cxOf CX0 P w K mg base ["thing", "parts", "found", "one"] "as_atom" (defScope st_as_atom) f cdv A outer s H E).nox (defBody st_as_atom) t ∧ t { nx := fun _ H' => Q .non H', rt := Q } (L2.start ["thing", "parts", "found", "one"] [v]) H := by
    intro ht he
    refine ⟨_, (pss_cons (ps_if (PW.pt (pw_and (pt_val (pe_own c_is_list hr_is_list rfl (pa_cons (pv 0) pa_nil))) (pw_and (pt_cmpR op_eq (pe_callB call_len_seq rfl z_len PySem.boot_len (pa_cons (pv 0) pa_nil)) pe_int (nomark _)) (pw_and (pt_val (pe_callB call_isi rfl z_isinstance boot_isinstance (pa_cons (pe_ix ix_tup (pv 0) pe_int (fun _ _ => rfl)) (pa_cons (pe_bltn (v := .ty "str") rfl z_str boot_str rfl) pa_nil)))) (pw_and1 (pt_cmpR op_eq (pe_ix ix_tup (pv 0) pe_int (fun _ _ => rfl)) pe_str (nomark _))))))) (pss_cons (ps_setLc (i := 1) (own := [("one", 3)]) (g := (gName 3)) (tt := tYes) rfl sc_as_atom.nd rfl rfl (sw_true rfl rfl rfl (by decide +kernel)) (pi_tup (pe_slice sl_tupA (pv 0) (po_some pe_int) po_none)) (blkOk_by (N := ["thing", "parts", "found", "one"]) (sc := defScope st_as_atom) (by decide +kernel)) (fun _ _ _ _ _ => (pg_name (i := 3) sc_as_atom.nd rfl (Or.inl rfl))) (fun _ _ _ _ _ => pts_nil) (fun _ _ _ _ _ => (pe_own c_as_word hr_as_word rfl (pa_cons (pv 3) pa_nil)))) (pss_one (ps_ret (pe_ifExp (pt_cmpR (op_notInD hu65) pe_non (pv 1) (by with_unfolding_all rfl)) (pe_tup (pa_cons pe_str (StX.pa_star (pv 1) pa_nil))) pe_non)))) pss_nil) (pss_cons (ps_set (i := 2) sc_as_atom.nd rfl (Or.inl rfl) (pe_own c_as_word hr_as_word rfl (pa_cons (pv 0) pa_nil))) (pss_one (ps_ret (pe_ifExp (pt_val (pe_callB call_isi rfl z_isinstance boot_isinstance (pa_cons (pv 2) (pa_cons (pe_bltn (v := .ty "tuple") rfl z_tuple boot_tuple rfl) pa_nil)))) (pv 2) pe_non))))), ?_⟩
    refine q_when false (fun Q1 q1 => ?_) (fun hb => nomatch hb) (fun _ H1 e1 => rest he H1 e1 _ rfl)
    walk_at "rd"
    refine ⟨_, rfl, _, d, rfl, hd1, fun H' e => ⟨_, rfl, ?_⟩⟩
    rw [ht]
    exact iteF (q1 H' e)
  cases hd with
  | @lst a xs ds0 hs ha =>
    have hsv : ∀ H', Same H H' → SqL K H' a xs := fun H' e => e.seq (hide_same.seq hs)
    have lxs : xs.length = ds0.length := DEs.length ha
    have htn : (tn (.list ds0) == "list" || tn (.list ds0) == "tuple") = true := by simp [tn]
    refine ⟨_, (pss_cons (ps_if (PW.pt (pw_and (pt_val (pe_own c_is_list hr_is_list rfl (pa_cons (pv 0) pa_nil))) (pw_and (pt_cmpR op_eq (pe_callB call_len_seq rfl z_len PySem.boot_len (pa_cons (pv 0) pa_nil)) pe_int (nomark _)) (pw_and (pt_val (pe_callB call_isi rfl z_isinstance boot_isinstance (pa_cons (pe_ix ix_list (pv 0) pe_int (fun _ _ => rfl)) (pa_cons (pe_bltn (v := .ty "str") rfl z_str boot_str rfl) pa_nil)))) (pw_and1 (pt_cmpR op_eq (pe_ix ix_list (pv 0) pe_int (fun _ _ => rfl)) pe_str (nomark _))))))) (pss_cons (ps_setLc (i := 1) (own := [("one", 3)]) (g := (gName 3)) (tt := tYes) rfl sc_as_atom.nd rfl rfl (sw_true rfl rfl rfl (by decide +kernel)) (pi_list (pe_slice sl_list (pv 0) (po_some pe_int) po_none)) (blkOk_by (N := ["thing", "parts", "found", "one"]) (sc := defScope st_as_atom) (by decide +kernel)) (fun _ _ _ _ _ => (pg_name (i := 3) sc_as_atom.nd rfl (Or.inl rfl))) (fun _ _ _ _ _ => pts_nil) (fun _ _ _ _ _ => (pe_own c_as_word hr_as_word rfl (pa_cons (pv 3) pa_nil)))) (pss_one (ps_ret (pe_ifExp (pt_cmpR (op_notInD hu65) pe_non (pv 1) (by with_unfolding_all rfl)) (pe_tup (pa_cons pe_str (StX.pa_star (pv 1) pa_nil))) pe_non)))) pss_nil) (pss_cons (ps_set (i := 2) sc_as_atom.nd rfl (Or.inl rfl) (pe_own c_as_word hr_as_word rfl (pa_cons (pv 0) pa_nil))) (pss_one (ps_ret (pe_ifExp (pt_val (pe_callB call_isi rfl z_isinstance boot_isinstance (pa_cons (pv 2) (pa_cons (pe_bltn (v := .ty "tuple") rfl z_tuple boot_tuple rfl) pa_nil)))) (pv 2) pe_non))))), ?_⟩
    refine q_when (isEq ds0) (fun Q1 q1 => ?_) (fun hb H1 e1 => ?_) (fun hb H1 e1 => rest hb H1 e1 _ rfl)
    · walk_at "rd"
      refine ⟨_, rfl, _, .list ds0, rfl, hd1, fun H' e => ⟨_, rfl, ?_⟩⟩
      rw [htn]
      refine iteT ?_
      have hs1 := hsv H' e
      refine ⟨_, rfl, a, xs, rfl, .inl hs1, rfl, _, rfl, ?_⟩
      refine ite_b (fun h3 => ?_) (fun h3 => ?_)
      · have l3 : ds0.length = 3 := by
          have := V.int.inj (of_decide_eq_true h3)
          omega
        obtain ⟨x0, x1, x2, d0, d1, d2, rfl, rfl, h0, _⟩ := three ha l3
        refine ⟨_, rfl, a, _, 0, _, rfl, rfl, hs1, atI_nat (j := 0) rfl, ?_⟩
        refine isi1 (DE.same (hide_same.trans e) h0) (kb_str d0) ⟨_, rfl, ?_⟩
        cases d0 with
        | str x =>
          cases h0
          refine iteT ?_
          refine ⟨_, rfl, a, _, 0, _, rfl, rfl, hs1, atI_nat (j := 0) rfl, rfl, _, rfl, ?_⟩
          have := q1 H' e
          rw [show isEq [.str x, d1, d2] = decide (V.str x = V.str sEq) by
            show decide (x = sEq) = _
            by_cases q : x = sEq <;> simp [q]] at this
          exact this
        | _ => exact iteF (q1 H' e)
      · have : isEq ds0 = false := by
          cases q : isEq ds0 with
          | false => rfl
          | true =>
            obtain ⟨d1, d2, rfl⟩ := isEq_ex q
            have hx : xs.length = 3 := lxs
            rw [hx] at h3
            cases h3
        have q2 := q1 H' e
        rw [this] at q2
        exact q2
    obtain ⟨d1, d2, rfl⟩ := isEq_ex hb
    obtain ⟨x0, x1, x2, d0', d1', d2', rfl, ed0, h0, hds⟩ := three ha rfl
    cases ed0
    cases h0
    rw [okz, Bool.and_eq_true] at hz
    have hz2 : okzs [d1, d2] = true := by have := hz.2; rw [okzs, Bool.and_eq_true] at this; exact this.2
    have hdd : PyData.depthAll [d1, d2] < n := by
      rw [PyData.depth, PyData.depthAll] at hdp
      omega
    have hs2 := hsv H1 e1
    have ldx : [x1, x2].length = [d1, d2].length := rfl
    refine q_seq (fun σ' H' => ∃ l ys, σ' = [some (.ref a), some (.ref l), none, none] ∧ Same H H' ∧ H' l = some (.lst ys) ∧ DpAll K (hide N H') ys ([d1, d2].map wOr)) (fun Z z => ?_) (fun σ3 H3 hp3 => ?_)
    · walk_at "rd"
      refine rd_lc ?_
      refine ⟨_, rfl, 1, rfl, a, _, rfl, hs2, fun p hp => ?_⟩
      rw [cut1]
      refine ⟨p, rfl, ⟨_, .inl (.inl upd_same)⟩, ?_⟩
      have sX : Same H (upd H1 p (.lst [x1, x2])) := e1.trans (same_new hp _)
      refine lcp (K := K) (N := N) (hN.same sX) (src_list (.inl (.inl upd_same))) (show 2 ≤ 100000 by decide) (fun _ => true) (fun i => wOr ([d1, d2].getD i .none)) (fun i y Hq N7 Q2 Q3 hq e7 r7 tr7 hs7 q2 q3 => ?_) (fun Dl Hq ys7 nD e7 hy7 da => ?_)
      · obtain ⟨d7, hd7, hy7⟩ := DEs.get (DEs.same ((hide_mono sX).trans hs7) hds) r7
        have hm7 := List.mem_of_getElem? hd7
        have dm := depth_mem hm7
        walk_at "rd"
        refine ⟨rfl, iteT ?_⟩
        refine ⟨_, rfl, N7, y, d7, rfl, tr7, hy7, okz_mem hz2 hm7, by omega, fun v' H' e' hv => q2 _ _ e' rfl ?_⟩
        rw [List.getD_eq_getElem?_getD, hd7]
        show Dp K (hide N7 H') v' (wOr d7)
        unfold wOr
        cases h9 : asW d7 with
        | none => rw [h9] at hv; cases hv; exact .non
        | some t => rw [h9] at hv; exact hv
      · have ed := map_range [d1, d2] wOr .none
        rw [ldx, ed] at da
        exact z _ _ ⟨Dl, ys7, rfl, sX.trans e7, hy7, da⟩
    obtain ⟨l, ys, rfl, s3, hl3, d3⟩ := hp3
    walk_at "rd"
    have d3' : Dp K H3 (.ref l) (.list ([d1, d2].map wOr)) := .lst (.inl (.inl hl3)) (DpAll.same hide_same d3)
    refine ⟨_, rfl, .none, _, .non, d3', by decide, wOrs_shaped hz2 (by omega), _, rfl, ?_⟩
    rw [asWs_none, Bool.not_not]
    have kk := k
    have easA : asA (.list [.str sEq, d1, d2]) = (asWs [d1, d2]).map (T.n sEq) := by
      unfold asA
      rw [if_pos (show eqOf (.list [.str sEq, d1, d2]) = true from hb)]
      rfl
    rw [easA] at kk
    cases hA : asWs [d1, d2] with
    | none =>
      rw [hA] at kk
      refine iteF ?_
      exact kk _ _ s3 rfl
    | some ts =>
      rw [hA] at kk
      refine iteT ?_
      have ly : ys.length = 2 := by have := DpAll.length d3; rw [List.length_map] at this; exact this
      refine ⟨_, rfl, l, ys, rfl, .inr (.inl (.inl hl3)), ?_, fun q hq => ?_⟩
      · rw [List.append_nil]
        exact Nat.le_trans (show ys.length + 1 ≤ 2000 by omega) (by decide)
      · refine kk _ _ (s3.trans (same_new hq _)) ?_
        rw [asWs_dats hA] at d3
        show Dp K _ (.ref q) (.tuple (.str sEq :: T.dats ts))
        rw [T.dats_map]
        exact .tup (.inl (.inl (by rw [hide_upd ((hN.same s3).off hq), List.append_nil]; rfl))) (.cons (.str _) (DpAll.same (hide_mono (same_new hq _)) d3))
  | @tup a xs ds0 hs ha =>
    have hsv : ∀ H', Same H H' → SqT K H' a xs := fun H' e => Same.tupL e (Same.tupL hide_same hs)
    have lxs : xs.length = ds0.length := DEs.length ha
    have htn : (tn (.tuple ds0) == "list" || tn (.tuple ds0) == "tuple") = true := by simp [tn]
    refine ⟨_, (pss_cons (ps_if (PW.pt (pw_and (pt_val (pe_own c_is_list hr_is_list rfl (pa_cons (pv 0) pa_nil))) (pw_and (pt_cmpR op_eq (pe_callB call_len_seq rfl z_len PySem.boot_len (pa_cons (pv 0) pa_nil)) pe_int (nomark _)) (pw_and (pt_val (pe_callB call_isi rfl z_isinstance boot_isinstance (pa_cons (pe_ix ix_tup (pv 0) pe_int (fun _ _ => rfl)) (pa_cons (pe_bltn (v := .ty "str") rfl z_str boot_str rfl) pa_nil)))) (pw_and1 (pt_cmpR op_eq (pe_ix ix_tup (pv 0) pe_int (fun _ _ => rfl)) pe_str (nomark _))))))) (pss_cons (ps_setLc (i := 1) (own := [("one", 3)]) (g := (gName 3)) (tt := tYes) rfl sc_as_atom.nd rfl rfl (sw_true rfl rfl rfl (by decide +kernel)) (pi_tup (pe_slice sl_tupA (pv 0) (po_some pe_int) po_none)) (blkOk_by (N := ["thing", "parts", "found", "one"]) (sc := defScope st_as_atom) (by decide +kernel)) (fun _ _ _ _ _ => (pg_name (i := 3) sc_as_atom.nd rfl (Or.inl rfl))) (fun _ _ _ _ _ => pts_nil) (fun _ _ _ _ _ => (pe_own c_as_word hr_as_word rfl (pa_cons (pv 3) pa_nil)))) (pss_one (ps_ret (pe_ifExp (pt_cmpR (op_notInD hu65) pe_non (pv 1) (by with_unfolding_all rfl)) (pe_tup (pa_cons pe_str (StX.pa_star (pv 1) pa_nil))) pe_non)))) pss_nil) (pss_cons (ps_set (i := 2) sc_as_atom.nd rfl (Or.inl rfl) (pe_own c_as_word hr_as_word rfl (pa_cons (pv 0) pa_nil))) (pss_one (ps_ret (pe_ifExp (pt_val (pe_callB call_isi rfl z_isinstance boot_isinstance (pa_cons (pv 2) (pa_cons (pe_bltn (v := .ty "tuple") rfl z_tuple boot_tuple rfl) pa_nil)))) (pv 2) pe_non))))), ?_⟩
    refine q_when (isEq ds0) (fun Q1 q1 => ?_) (fun hb H1 e1 => ?_) (fun hb H1 e1 => rest hb H1 e1 _ rfl)
    · walk_at "rd"
      refine ⟨_, rfl, _, .tuple ds0, rfl, hd1, fun H' e => ⟨_, rfl, ?_⟩⟩
      rw [htn]
      refine iteT ?_
      have hs1 := hsv H' e
      refine ⟨_, rfl, a, xs, rfl, .inr hs1, rfl, _, rfl, ?_⟩
      refine ite_b (fun h3 => ?_) (fun h3 => ?_)
      · have l3 : ds0.length = 3 := by
          have := V.int.inj (of_decide_eq_true h3)
          omega
        obtain ⟨x0, x1, x2, d0, d1, d2, rfl, rfl, h0, _⟩ := three ha l3
        refine ⟨_, rfl, a, _, 0, _, rfl, rfl, hs1, atI_nat (j := 0) rfl, ?_⟩
        refine isi1 (DE.same (hide_same.trans e) h0) (kb_str d0) ⟨_, rfl, ?_⟩
        cases d0 with
        | str x =>
          cases h0
          refine iteT ?_
          refine ⟨_, rfl, a, _, 0, _, rfl, rfl, hs1, atI_nat (j := 0) rfl, rfl, _, rfl, ?_⟩
          have := q1 H' e
          rw [show isEq [.str x, d1, d2] = decide (V.str x = V.str sEq) by
            show decide (x = sEq) = _
            by_cases q : x = sEq <;> simp [q]] at this
          exact this
        | _ => exact iteF (q1 H' e)
      · have : isEq ds0 = false := by
          cases q : isEq ds0 with
          | false => rfl
          | true =>
            obtain ⟨d1, d2, rfl⟩ := isEq_ex q
            have hx : xs.length = 3 := lxs
            rw [hx] at h3
            cases h3
        have q2 := q1 H' e
        rw [this] at q2
        exact q2
    obtain ⟨d1, d2, rfl⟩ := isEq_ex hb
    obtain ⟨x0, x1, x2, d0', d1', d2', rfl, ed0, h0, hds⟩ := three ha rfl
    cases ed0
    cases h0
    rw [okz, Bool.and_eq_true] at hz
    have hz2 : okzs [d1, d2] = true := by have := hz.2; rw [okzs, Bool.and_eq_true] at this; exact this.2
    have hdd : PyData.depthAll [d1, d2] < n := by
      rw [PyData.depth, PyData.depthAll] at hdp
      omega
    have hs2 := hsv H1 e1
    have ldx : [x1, x2].length = [d1, d2].length := rfl
    refine q_seq (fun σ' H' => ∃ l ys, σ' = [some (.ref a), some (.ref l), none, none] ∧ Same H H' ∧ H' l = some (.lst ys) ∧ DpAll K (hide N H') ys ([d1, d2].map wOr)) (fun Z z => ?_) (fun σ3 H3 hp3 => ?_)
    · walk_at "rd"
      refine rd_lc ?_
      refine ⟨_, rfl, 1, rfl, a, _, rfl, hs2, fun q => absurd q (cut1_ne _ _), fun _ p hp => ?_⟩
      rw [cut1]
      refine ⟨p, rfl, ⟨_, .inl (.inl upd_same)⟩, ?_⟩
      have sX : Same H (upd H1 p (.tup [x1, x2])) := e1.trans (same_new hp _)
      refine lcp (K := K) (N := N) (hN.same sX) (src_tup (.inl (.inl upd_same))) (show 2 ≤ 100000 by decide) (fun _ => true) (fun i => wOr ([d1, d2].getD i .none)) (fun i y Hq N7 Q2 Q3 hq e7 r7 tr7 hs7 q2 q3 => ?_) (fun Dl Hq ys7 nD e7 hy7 da => ?_)
      · obtain ⟨d7, hd7, hy7⟩ := DEs.get (DEs.same ((hide_mono sX).trans hs7) hds) r7
        have hm7 := List.mem_of_getElem? hd7
        have dm := depth_mem hm7
        walk_at "rd"
        refine ⟨rfl, iteT ?_⟩
        refine ⟨_, rfl, N7, y, d7, rfl, tr7, hy7, okz_mem hz2 hm7, by omega, fun v' H' e' hv => q2 _ _ e' rfl ?_⟩
        rw [List.getD_eq_getElem?_getD, hd7]
        show Dp K (hide N7 H') v' (wOr d7)
        unfold wOr
        cases h9 : asW d7 with
        | none => rw [h9] at hv; cases hv; exact .non
        | some t => rw [h9] at hv; exact hv
      · have ed := map_range [d1, d2] wOr .none
        rw [ldx, ed] at da
        exact z _ _ ⟨Dl, ys7, rfl, sX.trans e7, hy7, da⟩
    obtain ⟨l, ys, rfl, s3, hl3, d3⟩ := hp3
    walk_at "rd"
    have d3' : Dp K H3 (.ref l) (.list ([d1, d2].map wOr)) := .lst (.inl (.inl hl3)) (DpAll.same hide_same d3)
    refine ⟨_, rfl, .none, _, .non, d3', by decide, wOrs_shaped hz2 (by omega), _, rfl, ?_⟩
    rw [asWs_none, Bool.not_not]
    have kk := k
    have easA : asA (.tuple [.str sEq, d1, d2]) = (asWs [d1, d2]).map (T.n sEq) := by
      unfold asA
      rw [if_pos (show eqOf (.tuple [.str sEq, d1, d2]) = true from hb)]
      rfl
    rw [easA] at kk
    cases hA : asWs [d1, d2] with
    | none =>
      rw [hA] at kk
      refine iteF ?_
      exact kk _ _ s3 rfl
    | some ts =>
      rw [hA] at kk
      refine iteT ?_
      have ly : ys.length = 2 := by have := DpAll.length d3; rw [List.length_map] at this; exact this
      refine ⟨_, rfl, l, ys, rfl, .inr (.inl (.inl hl3)), ?_, fun q hq => ?_⟩
      · rw [List.append_nil]
        exact Nat.le_trans (show ys.length + 1 ≤ 2000 by omega) (by decide)
      · refine kk _ _ (s3.trans (same_new hq _)) ?_
        rw [asWs_dats hA] at d3
        show Dp K _ (.ref q) (.tuple (.str sEq :: T.dats ts))
        rw [T.dats_map]
        exact .tup (.inl (.inl (by rw [hide_upd ((hN.same s3).off hq), List.append_nil]; rfl))) (.cons (.str _) (DpAll.same (hide_mono (same_new hq _)) d3))
  | _ => exact plain rfl rfl

end
end WD

-- text: W5
set_option Elab.async false
set_option linter.all false
set_option maxRecDepth 100000
set_option maxHeartbeats 400000
namespace WD
open PySem PySem.Spec PyProof.Rows L2 GB GL
open DB hiding isi1 isiT
local macro_rules | `(tactic| walk_at "rd") => `(tactic| (dsimp only [cxOf, Cx.nox, L2.start, tRet, tRetN, tCB, tCons, tNil, tC, tVar, tTup, tLst, tB, tTest, tAnd, tOr, tNot, tAndV, tOrV, tNotV, tIfS, tIf, tSeq, tNext, tDrop, tOp, tUn, tAsg, gName, gSub, tSl, tPart, tNoPart, tCall, tPar, tBM, tChain, tYes, StX.tStar, tFld, tNotN, tIsN, tDNotIn, tDIn, tDGet, tDGet2, tDNewK, gTup, gCons, gNil, tLockE, iKeys, XR.iZipTN, sFld, sDPut, iEnum, XR.iEnumK, XR.iEnumT, iList, RZ.iZipA, iTup, iRng1, iRng2, tMake, tPar3, tRevL, XR.tTwo3, List.length_cons, List.length_nil, List.set_cons_zero, List.set_cons_succ, List.nil_append, List.cons_append, List.append_nil]))
section
variable {P : Program} {w : World} {K : PySem.W.Frag} {mg : Str → Option Value} {base : Heap}

/-- an own error with one field, as it stands behind the top -/
structure Err (K : PySem.W.Frag) (mg : Str → Option Value) (x fld : Str) (st : Stmt) (C : Addr) : Prop where
  gC : mg x = some (.ref C)
  ox : OexC K C
  xf : XfC K C
  no : PySem.W.findIn K (.ref C) fld = some none
  fn : ∃ (f : Addr) (fd : FuncData), Fun K "__init__" (x ++ ".__init__") st f fd ∧ Binds K fd ["self", fld] [] ∧ PySem.W.findIn K (.ref C) "__init__" = some (some (.ref f)) ∧ PySem.W.typeIn K (.ref f) = some (.type "function")
  te : PySem.W.exmOne K (.ref C) (.ref C) = some true
/-- its __init__ -/
def spErrInit (C : Addr) (fld : Str) : Sp := fun vs H Q _ => ∃ (a : Addr) (y : V), vs = [.ref a, y] ∧ H a = some (exo a C none) ∧ ∀ dx, H dx = none → dx ≠ a → Q .non (upd (upd H dx (exd dx [(fld, y)])) a (exo a C (some dx)))
structure ErrOk (P : Program) (w : World) (K : PySem.W.Frag) (mg : Str → Option Value) (base : Heap) (x fld : Str) (C : Addr) : Prop where
  gC : mg x = some (.ref C)
  ox : OexC K C
  fn : ∃ (f : Addr) (fd : FuncData), FnOk P w K mg base CX0 1 f fd ["self", fld] (spErrInit C fld) ∧ Binds K fd ["self", fld] [] ∧ PySem.W.findIn K (.ref C) "__init__" = some (some (.ref f)) ∧ PySem.W.typeIn K (.ref f) = some (.type "function")
/-- raise x(y): what leaves -/
def Left (C : Addr) (fld : Str) (y : V) (H : Hp) (E : XK) : Prop := ∀ (d : Addr) (H' : Hp), Same H H' → H d = none → H' d = some (.xd [(fld, y)]) → E (.ref C) (some d) H'
abbrev st_BadWord___init__ : Stmt := inClass (top 13) 0
theorem sc_BadWord___init__ : FnScope ["self", "thing"] ["self", "thing"] (defScope st_BadWord___init__) := ⟨rfl, rfl, rfl, by decide +kernel, rfl, by decide +kernel, by decide +kernel⟩
abbrev st_BadPlace___init__ : Stmt := inClass (top 8) 0
theorem sc_BadPlace___init__ : FnScope ["self", "thing"] ["self", "thing"] (defScope st_BadPlace___init__) := ⟨rfl, rfl, rfl, by decide +kernel, rfl, by decide +kernel, by decide +kernel⟩

theorem pmk_err {X : Cx} {x fld : Str} {C : Addr} {e : Expr} {te : TE} {p pos : Pos} (T : ErrOk X.prog X.w X.K X.mg X.base x fld C) (hr : Room 2 X.A) (hg : Gl X x) (he : PA X [e] (tCons te tNil)) (hdb : (x == ("__debug__" : Str)) = false := by decide)
    (hs : starEach [e] X.env = (false, eval e X.env) :: starEach [] X.env := by rfl) (hpl : (backTo pos (starEach [] X.env)).any (·.1) = false := by rfl) :
    PMk X (.Call (.Name x p) [e] [] pos) (tMkO C (spErrInit C fld) [] (tCons te tNil)) := by
  obtain ⟨f, fd, F, b, iC, tI⟩ := T.fn
  exact pmk_oex T.ox iC tI F hr b .nil (fun _ _ _ _ _ _ _ h => h.elim) hg T.gC he hdb hs hpl
/-- behind its arguments -/
theorem left_ok {C : Addr} {fld : Str} {y : V} {H1 : Hp} {Q : XK} (h : Left C fld y H1 Q) : [y].length ≤ 1000 ∧ ∀ a, H1 a = none → spErrInit C fld (.ref a :: ([y] ++ [])) (upd H1 a (exo a C none))
    (fun v H2 => v = .non ∧ ∃ (d : Addr) (fs : List (Str × V)), H2 a = some (exo a C (some d)) ∧ H2 d = some (exd d fs) ∧ H1 d = none ∧ Q (.ref C) (some d) (upd (del H2 a) d (.xd fs))) (fun _ _ _ => False) := by
  refine ⟨show 1 ≤ 1000 by decide, fun a ha => ⟨a, y, rfl, upd_same, fun dx hdx hne => ⟨rfl, dx, [(fld, y)], upd_same, ?_, ?_, ?_⟩⟩⟩
  · rw [upd_ne hne, upd_same]
  · rw [upd_ne hne] at hdx
    exact hdx
  · rw [upd_ne hne] at hdx
    refine h dx _ (fun b o q => ?_) hdx upd_same
    have n1 : b ≠ a := fun z => by subst z; rw [ha] at q; cases q
    have n2 : b ≠ dx := fun z => by subst z; rw [hdx] at q; cases q
    rw [upd_ne n2, del_ne n1, upd_ne n1, upd_ne n2, upd_ne n1]
    exact q
theorem Err.ok {x fld : Str} {st : Stmt} {C : Addr} (T : Err K mg x fld st C) (S : FnScope ["self", fld] ["self", fld] (defScope st)) (hb : ∀ (cdv : Value) (A : Around) (outer : List Env) (s : Shared) (H : Hp) (E : XK) (f : Addr), PSs (cxOf CX0 P w K mg base ["self", fld] (x ++ ".__init__") (defScope st) f cdv A outer s H E).nox (defBody st) (tOst K fld (tVar 0) (tVar 1))) : ErrOk P w K mg base x fld C := by
  obtain ⟨f, fd, F, b, iC, tI⟩ := T.fn
  refine ⟨T.gC, T.ox, f, fd, F.ok S (fun vs H Q E h => ?_) (fun cdv A outer s H vs Q E hr h => ?_), b, iC, tI⟩
  · obtain ⟨a, y, rfl, _⟩ := h
    rfl
  · obtain ⟨a, y, rfl, ha, k⟩ := h
    exact ⟨_, hb cdv A outer s H E f, _, rfl, _, rfl, a, C, rfl, T.ox, T.no, .inl ⟨ha, fun dx h1 h2 => k dx h1 h2⟩⟩
theorem ok_BadWord {C : Addr} (T : Err K mg "BadWord" "thing" st_BadWord___init__ C) : ErrOk P w K mg base "BadWord" "thing" C :=
  T.ok sc_BadWord___init__ fun cdv A outer s H E f => pss_one (ps_ost (pv 0) (pv 1))
theorem ok_BadPlace {C : Addr} (T : Err K mg "BadPlace" "thing" st_BadPlace___init__ C) : ErrOk P w K mg base "BadPlace" "thing" C :=
  T.ok sc_BadPlace___init__ fun cdv A outer s H E f => pss_one (ps_ost (pv 0) (pv 1))
/-- a def that may raise -/
structure CalleeX (P : Program) (w : World) (K : PySem.W.Frag) (mg : Str → Option Value) (base : Heap) (k : Nat) (x : Str) (ps : List Str) (sp : Sp) : Prop where
  ex : ∃ (f : Addr) (fd : FuncData), FnOk P w K mg base (L2.CX P w) k f fd ps sp ∧ Binds K fd ps [] ∧ PySem.W.keepIn K (.ref f) = true ∧ mg x = some (.ref f)
theorem pe_ownX {X : Cx} {W : WX} {E : XK} {k : Nat} {x : Str} {ps : List Str} {sp : Sp} {e : Expr} {es : List Expr} {t : TA} {p pos : Pos} (C : CalleeX X.prog X.w X.K X.mg X.base k x ps sp) (hr : Room k X.A) (hg : Gl X x) (tk : Takes X W) (hW : ∀ cls d σ H, E cls d H → W cls d σ H) (ha : PA X (e :: es) t) (hd : (x == ("__debug__" : Str)) = false := by decide)
    (he : starEach (e :: es) X.env = (false, eval e X.env) :: starEach es X.env := by rfl) (hpl : (backTo pos (starEach es X.env)).any (·.1) = false := by rfl) :
    PE X (.Call (.Name x p) (e :: es) [] pos) (tCall sp [] E t) := by
  obtain ⟨f, fd, F, b, kp, m⟩ := C.ex
  exact pe_call F hr hg m kp b .nil (passes_call tk hW) ha hd he hpl
abbrev st_checked_word : Stmt := top 29
theorem sc_checked_word : FnScope ["thing", "found"] ["thing"] (defScope st_checked_word) := ⟨rfl, rfl, rfl, by decide +kernel, rfl, by decide +kernel, by decide +kernel⟩

theorem dat_non {K : PySem.W.Frag} {h : Hp} {v : V} {t : T} (d : Dp K h v t.dat) : decide (v = V.non) = false := by
  cases t with
  | v x => cases d; rfl
  | n x ks => cases d; rfl
def chkW (d : PyData) : Option T := match asW d with
  | some t => some t
  | none => asA d
def spChecked (K : PySem.W.Frag) (CW : Addr) (n : Nat) : Sp := fun vs H Q E => ∃ N v d, vs = [v] ∧ Tr N H ∧ DE K (hide N H) v d ∧ okz d = true ∧ d.depth < n ∧
  (∀ t, chkW d = some t → ∀ v' H', Same H H' → Dp K (hide N H') v' t.dat → Q v' H') ∧ (chkW d = none → ∀ H1, Same H H1 → Left CW "thing" v H1 E)
theorem ok_checked_word (D : Def K mg "checked_word" st_checked_word ["thing"]) {CW : Addr} {n j : Nat} (hj : 2 ≤ j) (c_BadWord : ErrOk P w K mg base "BadWord" "thing" CW) (c_as_word : Callee P w K mg base j "as_word" ["thing"] (spAsWord K n)) (c_as_atom : Callee P w K mg base j "as_atom" ["thing"] (spAsAtom K n)) : CalleeX P w K mg base (j + 1) "checked_word" ["thing"] (spChecked K CW n) := by
  obtain ⟨f, fd, F, b, m⟩ := D.ex
  refine ⟨f, fd, F.okX sc_checked_word (fun vs H Q E h => ?_) (fun cdv A outer s H vs Q E hr h => ?_), b, F.kp, m⟩
  · obtain ⟨N, v, d, rfl, _⟩ := h
    rfl
  obtain ⟨N, v, d, rfl, hN, hd, hz, hdp, k1, k2⟩ := h
  have hr_as_word := hr
  have hr_as_atom := hr
  have hr_BadWord := hr.mono hj
  refine ⟨_, (pss_cons (ps_set (i := 1) sc_checked_word.nd rfl (Or.inl rfl) (pe_own c_as_word hr_as_word rfl (pa_cons (pv 0) pa_nil))) (pss_cons (ps_if (pt_cmp (pc_isN (pv 1))) (pss_one (ps_set (i := 1) sc_checked_word.nd rfl (Or.inl rfl) (pe_own c_as_atom hr_as_atom rfl (pa_cons (pv 0) pa_nil)))) pss_nil) (pss_cons (ps_if (pt_cmp (pc_isN (pv 1))) (pss_one (ps_raise rfl (takes_of rfl rfl rfl rfl) (pmk_err c_BadWord hr_BadWord rfl (pa_cons (pv 0) pa_nil)))) pss_nil) (pss_one (ps_ret (pv 1)))))), ?_⟩
  walk_at "rd"
  refine ⟨_, rfl, N, v, d, rfl, hN, hd, hz, hdp, fun v1 H1 e1 h1 => ⟨_, rfl, _, rfl, ?_⟩⟩
  cases hA : asW d with
  | some t =>
    rw [hA] at h1
    have ht : chkW d = some t := by unfold chkW; rw [hA]
    rw [dat_non h1]
    refine iteF ⟨_, rfl, _, rfl, ?_⟩
    rw [dat_non h1]
    exact iteF ⟨_, rfl, k1 t ht v1 H1 e1 h1⟩
  | none =>
    rw [hA] at h1
    cases h1
    refine iteT ?_
    refine ⟨_, rfl, N, v, d, rfl, hN.same e1, DE.same (hide_mono e1) hd, hz, hdp, fun v2 H2 e2 h2 => ⟨_, rfl, _, rfl, ?_⟩⟩
    have hc : chkW d = asA d := by unfold chkW; rw [hA]
    cases hB : asA d with
    | some t =>
      rw [hB] at h2
      rw [dat_non h2]
      exact iteF ⟨_, rfl, k1 t (hc.trans hB) v2 H2 (e1.trans e2) h2⟩
    | none =>
      rw [hB] at h2
      cases h2
      refine iteT ?_
      exact ⟨_, rfl, left_ok (k2 (hc.trans hB) H2 (e1.trans e2))⟩
end
end WD

-- text: W6
set_option Elab.async false
set_option linter.all false
set_option maxRecDepth 100000
set_option maxHeartbeats 400000
namespace WD
open PySem PySem.Spec PyProof.Rows L2 GB GL
open DB hiding isi1 isiT
local macro_rules | `(tactic| walk_at "rd") => `(tactic| (dsimp only [cxOf, Cx.nox, L2.start, tRet, tRetN, tCB, tCons, tNil, tC, tVar, tTup, tLst, tB, tTest, tAnd, tOr, tNot, tAndV, tOrV, tNotV, tIfS, tIf, tSeq, tNext, tDrop, tOp, tUn, tAsg, gName, gSub, tSl, tPart, tNoPart, tCall, tPar, tBM, tChain, tYes, StX.tStar, tFld, tNotN, tIsN, tDNotIn, tDIn, tDGet, tDGet2, tDNewK, gTup, gCons, gNil, tLockE, iKeys, XR.iZipTN, sFld, sDPut, iEnum, XR.iEnumK, XR.iEnumT, iList, RZ.iZipA, iTup, iRng1, iRng2, tMake, tPar3, tRevL, XR.tTwo3, List.length_cons, List.length_nil, List.set_cons_zero, List.set_cons_succ, List.nil_append, List.cons_append, List.append_nil]))
section
variable {P : Program} {w : World} {K : PySem.W.Frag} {mg : Str → Option Value} {base : Heap}

mutual
/-- the places of a word -/
def plT : T → List (List Nat)
  | .v _ => [[]]
  | .n _ ks => [] :: plTs 0 ks
def plTs : Nat → List T → List (List Nat)
  | _, [] => []
  | i, k :: ks => (plT k).map (i :: ·) ++ plTs (i + 1) ks
end
mutual
theorem plT_len : ∀ t : T, (plT t).length = t.sz
  | .v _ => rfl
  | .n _ ks => by rw [plT, List.length_cons, plTs_len 0 ks, T.sz]
theorem plTs_len : ∀ (i : Nat) (ks : List T), (plTs i ks).length = T.szs ks
  | _, [] => rfl
  | i, k :: ks => by rw [plTs, List.length_append, List.length_map, plT_len k, plTs_len (i + 1) ks, T.szs]
end
theorem plTs_app : ∀ (ks ls : List T) (i : Nat), plTs i (ks ++ ls) = plTs i ks ++ plTs (i + ks.length) ls
  | [], ls, i => rfl
  | k :: ks, ls, i => by
    rw [List.cons_append, plTs, plTs, plTs_app ks ls (i + 1), List.append_assoc, List.length_cons]
    congr 3
    omega
abbrev nV (ns : List Nat) : List V := ns.map fun (i : Nat) => V.int (i : Int)
/-- a list of numbers, new behind H -/
def NewL (H H' : Hp) (v : V) (pl : List Nat) : Prop := ∃ a, v = .ref a ∧ H a = none ∧ H' a = some (.lst (nV pl))
theorem NewL.same {H H' H'' : Hp} {v : V} {pl : List Nat} (h : NewL H H' v pl) (e : Same H' H'') : NewL H H'' v pl := by
  obtain ⟨a, b, c, d⟩ := h
  exact ⟨a, b, c, e _ _ d⟩
theorem NewL.upd {H H' : Hp} {v : V} {pl : List Nat} {p : Addr} {o : HO} (h : NewL H H' v pl) (n : v ≠ .ref p) : NewL H (upd H' p o) v pl := by
  obtain ⟨a, rfl, c, d⟩ := h
  exact ⟨a, rfl, c, by rw [upd_ne (fun q => n (congrArg V.ref q))]; exact d⟩
theorem szs_take : ∀ {ks : List T} {i : Nat} {k : T}, ks[i]? = some k → T.szs (ks.take i) + k.sz ≤ T.szs ks
  | [], _, _, h => nomatch h
  | x :: xs, 0, k, h => by
    cases h
    rw [List.take_zero, T.szs, T.szs]
    omega
  | x :: xs, i + 1, k, h => by
    have := szs_take (ks := xs) (i := i) h
    rw [List.take_succ_cons, T.szs, T.szs]
    omega
theorem plTs_snoc {ks : List T} {i : Nat} {k : T} (h : ks[i]? = some k) (ns : List Nat) : ns :: (plTs 0 (ks.take (i + 1))).map (ns ++ ·) = (ns :: (plTs 0 (ks.take i)).map (ns ++ ·)) ++ (plT k).map ((ns ++ [i]) ++ ·) := by
  have hl : (ks.take i).length = i := List.length_take_of_le (Nat.le_of_lt (by
    by_cases q : i < ks.length
    · exact q
    · rw [List.getElem?_eq_none (Nat.le_of_not_lt q)] at h; cases h))
  rw [take_snoc h, plTs_app, hl, Nat.zero_add, plTs, plTs, List.append_nil, List.map_append, List.map_map, List.cons_append]
  congr 3
  funext x
  show ns ++ i :: x = ns ++ [i] ++ x
  rw [List.append_assoc]; rfl
theorem word_n {K : PySem.W.Frag} {N : Addr → Prop} {H : Hp} {v : V} {x : Str} {ks : List T} (h : Dp K (hide N H) v (T.n x ks).dat) : ∃ a xs, v = .ref a ∧ SqT K (hide N H) a (.str x :: xs) ∧ DpAll K (hide N H) xs (ks.map T.dat) := by
  rw [T.dat, T.dats_map] at h
  cases h with
  | tup hs ha =>
    cases ha with
    | cons h1 h2 =>
      cases h1
      exact ⟨_, _, rfl, hs, h2⟩
abbrev st_places_in : Stmt := top 30
theorem sc_places_in : FnScope ["word", "place", "found", "index", "part"] ["word", "place"] (defScope st_places_in) := ⟨rfl, rfl, rfl, by decide +kernel, rfl, by decide +kernel, by decide +kernel⟩

def spPlacesIn (K : PySem.W.Frag) (n : Nat) : Sp := fun vs H Q _ => ∃ N v pa t ns, vs = [v, .ref pa] ∧ Tr N H ∧ Dp K (hide N H) v (T.dat t) ∧ SqL K H pa (nV ns) ∧ t.ht < n ∧ t.sz ≤ 5000 ∧ ns.length + n ≤ 5000 ∧ ∀ H' l ys, Same H H' → H l = none → H' l = some (.lst ys) → Paired (NewL H H') ys ((plT t).map (ns ++ ·)) → Q (.ref l) H'
theorem ok_places_in (G : Glob K mg) (D : Def K mg "places_in" st_places_in ["word", "place"]) : ∀ n, Callee P w K mg base (n + 1) "places_in" ["word", "place"] (spPlacesIn K n)
  | 0 => by
    obtain ⟨f, fd, F, b, m⟩ := D.ex
    refine ⟨f, fd, F.ok sc_places_in (fun vs H Q E h => ?_) (fun cdv A outer s H vs Q E hr h => ?_), b, F.kp, m⟩
    · obtain ⟨N, v, pa, t, ns, rfl, _⟩ := h
      rfl
    · obtain ⟨N, v, pa, t, ns, rfl, _, _, _, h, _⟩ := h
      exact absurd h (Nat.not_lt_zero _)
  | n + 1 => by
    have c_places_in := ok_places_in G D n
    obtain ⟨f, fd, F, b, m⟩ := D.ex
    have z_isinstance := G.isinstance
    have z_tuple := G.tuple
    have z_list := G.list
    have z_enumerate := G.enumerate
    refine ⟨f, fd, F.ok sc_places_in (fun vs H Q E h => ?_) (fun cdv A outer s H vs Q E hr h => ?_), b, F.kp, m⟩
    · obtain ⟨N, v, pa, t, ns, rfl, _⟩ := h
      rfl
    obtain ⟨N, v, pa, t, ns, rfl, hN, hd, hp, hh, hz, hl, k⟩ := h
    have hr_places_in := hr
    refine ⟨_, (pss_cons (ps_set (i := 2) sc_places_in.nd rfl (Or.inl rfl) (pe_lst (pa_cons (pe_callTy call_list_of rfl z_list boot_list (pa_cons (pv 1) pa_nil)) pa_nil))) (pss_cons (ps_if (pt_val (pe_callB call_isi rfl z_isinstance boot_isinstance (pa_cons (pv 0) (pa_cons (pe_bltn (v := .ty "tuple") rfl z_tuple boot_tuple rfl) pa_nil)))) (pss_one (ps_for PassesOwn.never rfl (XR.pi_enumT rfl z_enumerate (pa_cons (pe_slice sl_tupA (pv 0) (po_some pe_int) po_none) pa_nil)) (pg_tup rfl (pgs_cons (pg_name (i := 3) sc_places_in.nd rfl (Or.inl rfl)) (pgs_cons (pg_name (i := 4) sc_places_in.nd rfl (Or.inl rfl)) pgs_nil))) (pss_one (ps_expr (pe_bm PySem.F.plainAttrs_list PySem.F.slot_list_extend PySem.F.type_list_extend mt_extend (pv 2) (pa_cons (pe_own c_places_in hr_places_in rfl (pa_cons (pv 4) (pa_cons (pe_lst (StX.pa_star (pv 1) (pa_cons (pv 3) pa_nil))) pa_nil))) pa_nil)))))) pss_nil) (pss_one (ps_ret (pv 2))))), ?_⟩
    have hd1 : DE K H v t.dat := DE.of (Dp.same hide_same hd)
    refine q_seq (fun σ' H' => ∃ p a0, σ' = [some v, some (.ref pa), some (.ref p), none, none] ∧ Same H H' ∧ H p = none ∧ H' p = some (.lst [.ref a0]) ∧ a0 ≠ p ∧ H a0 = none ∧ H' a0 = some (.lst (nV ns))) (fun Z z => ?_) (fun σ2 H2 hp2 => ?_)
    · walk_at "rd"
      refine ⟨_, rfl, pa, _, rfl, .inl hp, fun a0 h0 => ⟨by decide, fun p h1 => ?_⟩⟩
      have e1 := same_new h0 (.lst (nV ns))
      have ne : a0 ≠ p := fun q => by subst q; rw [upd_same] at h1; cases h1
      exact z _ _ ⟨p, a0, rfl, e1.trans (same_new h1 _), none_of_none e1 h1, upd_same, ne, h0, by rw [upd_ne ne, upd_same]⟩
    obtain ⟨p, a0, rfl, s2, hp0, hp2, ne0, ha0, ha2⟩ := hp2
    -- the words' parts
    refine q_seq (fun σ' H' => ∃ u3 u4 ys, σ' = [some v, some (.ref pa), some (.ref p), u3, u4] ∧ Same H H' ∧ H' p = some (.lst ys) ∧ Paired (NewL H H') ys ((plT t).map (ns ++ ·))) (fun Z z => ?_) (fun σ3 H3 hp3 => ?_)
    · cases t with
      | v x =>
        refine if_t false (fun Q1 q1 => ?_) (fun hb => nomatch hb) (fun _ H3 e3 => ?_)
        · walk_at "rd"
          exact ⟨_, rfl, isi1 (DE.same s2 hd1) (kb_tuple (.str x)) ⟨_, rfl, q1 _ (Same.refl _)⟩⟩
        · refine z _ _ ⟨_, _, [.ref a0], rfl, s2.trans e3, e3 _ _ hp2, .cons ⟨a0, rfl, ha0, e3 _ _ ?_⟩ .nil⟩
          show H2 a0 = some (.lst (nV (ns ++ [])))
          rw [List.append_nil]
          exact ha2
      | n x ks =>
        obtain ⟨a, xs, rfl, hs, hk⟩ := word_n hd
        have lk : xs.length = ks.length := by have := DpAll.length hk; rw [List.length_map] at this; exact this
        refine if_t true (fun Q1 q1 => ?_) (fun _ H3 e3 => ?_) (fun hb => nomatch hb)
        · walk_at "rd"
          exact ⟨_, rfl, isi1 (DE.same s2 hd1) (kb_tuple _) ⟨_, rfl, q1 _ (Same.refl _)⟩⟩
        refine rd_for ?_
        walk_at "rd"
        have s3 := s2.trans e3
        refine ⟨_, rfl, 1, rfl, a, _, rfl, Same.tupL (hide_same.trans s3) hs, fun q => absurd q (cut1_ne _ _), fun _ q1 hq1 => ?_⟩
        rw [cut1]
        refine ⟨q1, _, rfl, .inl (.inl upd_same), ?_⟩
        have e4 := same_new hq1 (.tup xs)
        refine forq (sp_enumT (K := K) (xs := xs)) (fun i σ' H' => ∃ u3 u4 ys, σ' = [some (.ref a), some (.ref pa), some (.ref p), u3, u4] ∧ Same H H' ∧ H' q1 = some (.tup xs) ∧ H' p = some (.lst ys) ∧ Paired (fun v pl => NewL H H' v pl ∧ v ≠ .ref p) ys (ns :: (plTs 0 (ks.take i)).map (ns ++ ·))) ⟨_, _, [.ref a0], rfl, s3.trans e4, upd_same, (e3.trans e4) _ _ hp2, .cons ⟨⟨a0, rfl, ha0, (e3.trans e4) _ _ ha2⟩, fun q => ne0 (V.ref.inj q)⟩ .nil⟩ (fun i σ' H' q => ?_) (fun i v σ' H0' H' hi q e hr' => ?_) (fun σ' H' q => ?_)
        · obtain ⟨_, _, _, _, _, h, _⟩ := q
          exact .inl (.inl h)
        · obtain ⟨u3, u4, ys, rfl, f1, f2, f3, f4⟩ := q
          obtain ⟨tp, vi, htp, rfl, rfl, hvi⟩ := hr'
          refine g_pair upd_same rfl ?_
          generalize upd H0' tp (.tup [.int (i : Nat), vi]) = H' at e
          have g1 := f1.trans e
          have g3 := e _ _ f3
          have g4 := paired_imp (fun v pl (q : NewL H H0' v pl ∧ v ≠ .ref p) => (⟨q.1.same e, q.2⟩ : NewL H H' v pl ∧ v ≠ .ref p)) f4
          obtain ⟨d, hd1', hd2⟩ := DpAll.get (DpAll.same (hide_mono g1) hk) hvi
          obtain ⟨ki, hki⟩ : ∃ ki, ks[i]? = some ki := ⟨_, List.getElem?_eq_getElem (by omega)⟩
          rw [List.getElem?_map, hki] at hd1'
          cases (Option.some.inj hd1')
          have hm := List.mem_of_getElem? hki
          have h1 := T.ht_mem hm
          have h2 := T.sz_mem hm
          rw [T.ht] at hh
          rw [T.sz] at hz
          walk_at "rd"
          have nep : H p = none := hp0
          refine ⟨_, rfl, .inl ⟨rfl, _, .inl (.inl g3)⟩, _, rfl, _, rfl, pa, _, rfl, .inr (Same.seq g1 hp), _, rfl, ?_, fun b hb => ?_⟩
          · rw [List.length_append, List.length_map]
            exact Nat.le_trans (show ns.length + 1 ≤ 100000 by omega) (by rw [sizeLine_eq]; decide)
          have hnp : b ≠ p := fun q => by subst q; rw [g3] at hb; cases hb
          have hbH := none_of_none g1 hb
          have eb := same_new hb (.lst (nV ns ++ [.int (i : Nat)]))
          have g5 := g1.trans eb
          refine ⟨N, vi, b, ki, ns ++ [i], rfl, ?_, ?_, .inl ?_, ?_, ?_, ?_, fun H5 l zs e5 hl5 hz5 d5 => ?_⟩
          · exact (hN.same g1).same eb
          · exact Dp.same (hide_mono eb) hd2
          · have ev : nV (ns ++ [i]) = nV ns ++ [.int (i : Nat)] := List.map_append
            rw [ev]
            exact .inl upd_same
          · omega
          · omega
          · rw [List.length_append]
            exact Nat.le_trans (show ns.length + 1 + n ≤ 5000 by omega) (Nat.le_refl _)
          have h3 := eb.trans e5
          have lys := paired_len f4
          have lzs := paired_len d5
          rw [List.length_cons, List.length_map, plTs_len] at lys
          rw [List.length_map, plT_len] at lzs
          have hlp : l ≠ p := fun q => by subst q; rw [(eb _ _ g3)] at hl5; cases hl5
          have hle : T.szs (ks.take i) + ki.sz ≤ T.szs ks := szs_take hki
          refine ⟨p, l, ys, zs, rfl, rfl, h3 _ _ g3, hz5, Nat.le_trans (show ys.length + zs.length ≤ 100000 by omega) (by rw [sizeLine_eq]; decide), _, _, ys ++ zs, rfl, same_upd nep (g1.trans h3) _, ?_, upd_same, ?_⟩
          · rw [upd_ne (fun q => by subst q; rw [f2] at f3; cases f3)]
            exact h3 _ _ (e _ _ f2)
          · rw [plTs_snoc hki]
            refine paired_app (paired_imp (fun v pl q => ⟨(q.1.same h3).upd q.2, q.2⟩) g4) (paired_imp (fun v pl q => ?_) d5)
            obtain ⟨a, rfl, a1, a2⟩ := q
            have a3 := none_of_none eb a1
            have nap : a ≠ p := fun q => by subst q; rw [g3] at a3; cases a3
            have nv : V.ref a ≠ V.ref p := fun q => nap (V.ref.inj q)
            exact ⟨NewL.upd ⟨a, rfl, none_of_none g1 a3, a2⟩ nv, nv⟩
        · obtain ⟨u3, u4, ys, rfl, f1, f2, f3, f4⟩ := q
          rw [lk, List.take_length] at f4
          refine z _ _ ⟨_, _, ys, rfl, f1, f3, ?_⟩
          rw [plT, List.map_cons, List.append_nil]
          exact paired_imp (fun _ _ q => q.1) f4
    obtain ⟨u3, u4, ys, rfl, s3, hp3, d3⟩ := hp3
    walk_at "rd"
    exact ⟨_, rfl, k H3 p ys s3 hp0 hp3 d3⟩
end
end WD

-- text: W7
set_option Elab.async false
set_option linter.all false
set_option maxRecDepth 100000
set_option maxHeartbeats 400000
namespace WD
open PySem PySem.Spec PyProof.Rows L2 GB GL
open DB hiding isi1 isiT
local macro_rules | `(tactic| walk_at "rd") => `(tactic| (dsimp only [cxOf, Cx.nox, L2.start, tRet, tRetN, tCB, tCons, tNil, tC, tVar, tTup, tLst, tB, tTest, tAnd, tOr, tNot, tAndV, tOrV, tNotV, tIfS, tIf, tSeq, tNext, tDrop, tOp, tUn, tAsg, gName, gSub, tSl, tPart, tNoPart, tCall, tPar, tBM, tChain, tYes, StX.tStar, tFld, tNotN, tIsN, tDNotIn, tDIn, tDGet, tDGet2, tDNewK, gTup, gCons, gNil, tLockE, iKeys, XR.iZipTN, sFld, sDPut, iEnum, XR.iEnumK, XR.iEnumT, iList, RZ.iZipA, iTup, iRng1, iRng2, tMake, tPar3, tRevL, XR.tTwo3, List.length_cons, List.length_nil, List.set_cons_zero, List.set_cons_succ, List.nil_append, List.cons_append, List.append_nil]))
section
variable {P : Program} {w : World} {K : PySem.W.Frag} {mg : Str → Option Value} {base : Heap}

/-- the part at a place -/
def atP : T → List PyData → Option T
  | t, [] => some t
  | .v _, _ :: _ => none
  | .n _ ks, d :: ds => match d with
    | .int i => if 0 ≤ i then (match ks[i.toNat]? with
      | some k => atP k ds
      | none => none) else none
    | _ => none
def datO : Option T → PyData
  | some t => t.dat
  | none => .none
theorem atP_nil (t : T) : atP t [] = some t := by cases t <;> rfl
theorem atP_num {x : Str} {ks : List T} {d : PyData} {ds : List PyData} (h : isNum d = false) : atP (.n x ks) (d :: ds) = none := by
  cases d <;> try rfl
  case int i =>
    have : ¬ 0 ≤ i := by simpa [isNum] using h
    rw [atP, if_neg this]
theorem drop_get {α : Type} {l : List α} {i : Nat} {x : α} (h : l[i]? = some x) : l.drop i = x :: l.drop (i + 1) := by
  obtain ⟨hi, rfl⟩ := List.getElem?_eq_some_iff.mp h
  exact List.drop_eq_getElem_cons hi
theorem num_nat {d : PyData} (h : isNum d = true) : ∃ m : Nat, d = .int m := by
  cases d with
  | int i => exact ⟨i.toNat, by rw [Int.toNat_of_nonneg (by simpa [isNum] using h)]⟩
  | _ => cases h
theorem atP_int {x : Str} {ks : List T} {m : Nat} {ds : List PyData} : atP (.n x ks) (.int (m : Int) :: ds) = (match ks[m]? with | some k => atP k ds | none => none) := by
  rw [atP, if_pos (Int.natCast_nonneg m), Int.toNat_natCast]
abbrev st_at_in : Stmt := top 31
theorem sc_at_in : FnScope ["word", "place", "index"] ["word", "place"] (defScope st_at_in) := ⟨rfl, rfl, rfl, by decide +kernel, rfl, by decide +kernel, by decide +kernel⟩

def spAtIn (K : PySem.W.Frag) : Sp := fun vs H Q _ => ∃ N v pa t xs ds, vs = [v, .ref pa] ∧ Tr N H ∧ Dp K (hide N H) v (T.dat t) ∧ (SqL K H pa xs ∨ SqT K H pa xs) ∧ DEs K H xs ds ∧ t.sz ≤ 5000 ∧ ∀ v' H', Same H H' → Dp K (hide N H') v' (datO (atP t ds)) → Q v' H'
theorem ok_at_in (G : Glob K mg) (D : Def K mg "at_in" st_at_in ["word", "place"]) (c_is_number : Callee P w K mg base 2 "is_number" ["thing"] (spIsNumber K)) : Callee P w K mg base 3 "at_in" ["word", "place"] (spAtIn K) := by
    obtain ⟨f, fd, F, b, m⟩ := D.ex
    have z_isinstance := G.isinstance
    have z_str := G.str
    have z_len := G.len
    refine ⟨f, fd, F.ok sc_at_in (fun vs H Q E h => ?_) (fun cdv A outer s H vs Q E hr h => ?_), b, F.kp, m⟩
    · obtain ⟨N, v, pa, t, xs, ds, rfl, _⟩ := h
      rfl
    obtain ⟨N, v, pa, t, xs, ds, rfl, hN, hd, hp, hxs, hz, k⟩ := h
    have hr_is_number := hr
    have hl : xs.length = ds.length := DEs.length hxs
    rcases hp with hs | hs
    · refine ⟨_, (pss_cons (ps_for PassesOwn.never rfl (pi_list (pv 1)) (pg_name (i := 2) sc_at_in.nd rfl (Or.inl rfl)) (pss_cons (ps_if (PW.pt (pw_or (pt_val (pe_callB call_isi rfl z_isinstance boot_isinstance (pa_cons (pv 0) (pa_cons (pe_bltn (v := .ty "str") rfl z_str boot_str rfl) pa_nil)))) (pw_or (pt_not (pt_val (pe_own c_is_number hr_is_number rfl (pa_cons (pv 2) pa_nil)))) (pw_or1 (pt_cmpR op_ge (pv 2) (pe_op op_sub (pe_callB call_len_seq rfl z_len PySem.boot_len (pa_cons (pv 0) pa_nil)) pe_int) (nomark _)))))) (pss_one (ps_ret pe_non)) pss_nil) (pss_one (ps_set (i := 0) sc_at_in.nd rfl (Or.inl rfl) (pe_ix ix_tup (pv 0) (pe_op op_add (pv 2) pe_int) (fun _ _ => rfl)))))) (pss_one (ps_ret (pv 0)))), ?_⟩
      refine q_seq (fun σ' H' => ∃ u v' t', σ' = [some v', some (.ref pa), u] ∧ Same H H' ∧ Dp K (hide N H') v' t'.dat ∧ atP t ds = some t') (fun Z z => ?_) (fun σ2 H2 hp2 => ?_)
      · refine rd_for ?_
        walk_at "rd"
        refine ⟨_, rfl, pa, rfl, ⟨xs, hs⟩, ?_⟩
        refine forq (sp_list (K := K) (xs := xs)) (fun i σ' H' => ∃ u v' t', σ' = [some v', some (.ref pa), u] ∧ Same H H' ∧ Dp K (hide N H') v' t'.dat ∧ atP t ds = atP t' (ds.drop i) ∧ t'.sz ≤ 5000) ⟨_, v, t, rfl, Same.refl _, hd, rfl, hz⟩ (fun i σ' H' q => ?_) (fun i x σ' H0' H' hi q e hr' => ?_) (fun σ' H' q => ?_)
        · obtain ⟨_, _, _, _, e, _⟩ := q
          exact Same.seq e hs
        · obtain ⟨u, v', t', rfl, f1, f2, f3, f4⟩ := q
          obtain ⟨hx, rfl⟩ := hr'
          obtain ⟨d, hdi, hdd⟩ := DEs.get (DEs.same f1 hxs) hx
          rw [drop_get hdi] at f3
          refine (?_ : tSeq _ _ _ [some v', some (.ref pa), some x] H')
          have hd1 : DE K H' v' t'.dat := DE.of (Dp.same hide_same f2)
          cases t' with
          | v y =>
            refine q_when true (fun Q1 q1 => ?_) (fun _ H3 e3 => ?_) (fun hb => nomatch hb)
            · walk_at "rd"
              exact ⟨_, rfl, isi1 hd1 (kb_str (.str y)) ⟨_, rfl, iteT (q1 _ (Same.refl _))⟩⟩
            · walk_at "rd"
              refine k _ _ (f1.trans e3) ?_
              rw [f3]
              exact .non
          | n y ks =>
            obtain ⟨wa, ws, rfl, hws, hwk⟩ := word_n f2
            have hwl : ws.length = ks.length := by have := DpAll.length hwk; rw [List.length_map] at this; exact this
            cases hnum : isNum d with
            | false =>
              refine q_when true (fun Q1 q1 => ?_) (fun _ H3 e3 => ?_) (fun hb => nomatch hb)
              · walk_at "rd"
                refine ⟨_, rfl, isi1 hd1 (kb_str (.tuple _)) ⟨_, rfl, iteF ⟨_, rfl, _, _, rfl, hdd, fun H4 e4 => ⟨_, rfl, ?_⟩⟩⟩⟩
                rw [hnum]
                exact iteT (q1 _ e4)
              · walk_at "rd"
                refine k _ _ (f1.trans e3) ?_
                rw [f3, atP_num hnum]
                exact .non
            | true =>
              obtain ⟨m, rfl⟩ := num_nat hnum
              cases hdd
              cases hk : ks[m]? with
              | none =>
                refine q_when true (fun Q1 q1 => ?_) (fun _ H3 e3 => ?_) (fun hb => nomatch hb)
                · walk_at "rd"
                  refine ⟨_, rfl, isi1 hd1 (kb_str (.tuple _)) ⟨_, rfl, iteF ⟨_, rfl, _, _, rfl, .int _, fun H4 e4 => ⟨_, rfl, ?_⟩⟩⟩⟩
                  rw [hnum]
                  refine iteF ⟨_, rfl, _, rfl, wa, _, rfl, .inr (Same.tupL (hide_same.trans e4) hws), ?_⟩
                  refine ⟨_, _, rfl, rfl, _, _, rfl, rfl, _, rfl, ?_⟩
                  have hq : ks.length ≤ m := List.getElem?_eq_none_iff.mp hk
                  rw [show decide (((V.str y :: ws).length : Int) - 1 ≤ (m : Int)) = true by rw [List.length_cons, hwl]; exact decide_eq_true (by omega)]
                  exact q1 _ e4
                · walk_at "rd"
                  refine k _ _ (f1.trans e3) ?_
                  rw [f3, atP_int, hk]
                  exact .non
              | some kk =>
                refine q_when false (fun Q1 q1 => ?_) (fun hb => nomatch hb) (fun _ H3 e3 => ?_)
                · walk_at "rd"
                  refine ⟨_, rfl, isi1 hd1 (kb_str (.tuple _)) ⟨_, rfl, iteF ⟨_, rfl, _, _, rfl, .int _, fun H4 e4 => ⟨_, rfl, ?_⟩⟩⟩⟩
                  rw [hnum]
                  refine iteF ⟨_, rfl, _, rfl, wa, _, rfl, .inr (Same.tupL (hide_same.trans e4) hws), ?_⟩
                  refine ⟨_, _, rfl, rfl, _, _, rfl, rfl, _, rfl, ?_⟩
                  have hq : m < ks.length := (List.getElem?_eq_some_iff.mp hk).1
                  rw [show decide (((V.str y :: ws).length : Int) - 1 ≤ (m : Int)) = false by rw [List.length_cons, hwl]; exact decide_eq_false (by omega)]
                  exact q1 _ e4
                · walk_at "rd"
                  have hq : m < ks.length := (List.getElem?_eq_some_iff.mp hk).1
                  obtain ⟨vm, hvm⟩ : ∃ vm, ws[m]? = some vm := ⟨_, List.getElem?_eq_getElem (hwl ▸ hq)⟩
                  obtain ⟨dm, hdm, hvd⟩ := DpAll.get hwk hvm
                  rw [List.getElem?_map, hk] at hdm
                  cases Option.some.inj hdm
                  have hsz := T.sz_mem (List.mem_of_getElem? hk)
                  rw [T.sz] at f4
                  refine ⟨_, rfl, _, rfl, _, _, rfl, rfl, wa, _, _, vm, rfl, rfl, Same.tupL (hide_same.trans e3) hws, ?_, _, vm, kk, rfl, f1.trans e3, Dp.same (hide_mono e3) hvd, ?_, by omega⟩
                  · exact atI_nat (xs := V.str y :: ws) (j := m + 1) hvm
                  · rw [f3, atP_int, hk]
        · obtain ⟨u, v', t', rfl, f1, f2, f3, f4⟩ := q
          refine z _ _ ⟨u, v', t', rfl, f1, f2, ?_⟩
          rw [f3, hl, List.drop_length, atP_nil]
      · obtain ⟨u, v', t', rfl, f1, f2, f3⟩ := hp2
        walk_at "rd"
        refine ⟨_, rfl, k _ _ f1 ?_⟩
        rw [f3]
        exact f2
    · refine ⟨_, (pss_cons (ps_for PassesOwn.never rfl (pi_tup (pv 1)) (pg_name (i := 2) sc_at_in.nd rfl (Or.inl rfl)) (pss_cons (ps_if (PW.pt (pw_or (pt_val (pe_callB call_isi rfl z_isinstance boot_isinstance (pa_cons (pv 0) (pa_cons (pe_bltn (v := .ty "str") rfl z_str boot_str rfl) pa_nil)))) (pw_or (pt_not (pt_val (pe_own c_is_number hr_is_number rfl (pa_cons (pv 2) pa_nil)))) (pw_or1 (pt_cmpR op_ge (pv 2) (pe_op op_sub (pe_callB call_len_seq rfl z_len PySem.boot_len (pa_cons (pv 0) pa_nil)) pe_int) (nomark _)))))) (pss_one (ps_ret pe_non)) pss_nil) (pss_one (ps_set (i := 0) sc_at_in.nd rfl (Or.inl rfl) (pe_ix ix_tup (pv 0) (pe_op op_add (pv 2) pe_int) (fun _ _ => rfl)))))) (pss_one (ps_ret (pv 0)))), ?_⟩
      refine q_seq (fun σ' H' => ∃ u v' t', σ' = [some v', some (.ref pa), u] ∧ Same H H' ∧ Dp K (hide N H') v' t'.dat ∧ atP t ds = some t') (fun Z z => ?_) (fun σ2 H2 hp2 => ?_)
      · refine rd_for ?_
        walk_at "rd"
        refine ⟨_, rfl, pa, rfl, ⟨xs, hs⟩, ?_⟩
        refine forq (sp_tup (K := K) (xs := xs)) (fun i σ' H' => ∃ u v' t', σ' = [some v', some (.ref pa), u] ∧ Same H H' ∧ Dp K (hide N H') v' t'.dat ∧ atP t ds = atP t' (ds.drop i) ∧ t'.sz ≤ 5000) ⟨_, v, t, rfl, Same.refl _, hd, rfl, hz⟩ (fun i σ' H' q => ?_) (fun i x σ' H0' H' hi q e hr' => ?_) (fun σ' H' q => ?_)
        · obtain ⟨_, _, _, _, e, _⟩ := q
          exact Same.tupL e hs
        · obtain ⟨u, v', t', rfl, f1, f2, f3, f4⟩ := q
          obtain ⟨hx, rfl⟩ := hr'
          obtain ⟨d, hdi, hdd⟩ := DEs.get (DEs.same f1 hxs) hx
          rw [drop_get hdi] at f3
          refine (?_ : tSeq _ _ _ [some v', some (.ref pa), some x] H')
          have hd1 : DE K H' v' t'.dat := DE.of (Dp.same hide_same f2)
          cases t' with
          | v y =>
            refine q_when true (fun Q1 q1 => ?_) (fun _ H3 e3 => ?_) (fun hb => nomatch hb)
            · walk_at "rd"
              exact ⟨_, rfl, isi1 hd1 (kb_str (.str y)) ⟨_, rfl, iteT (q1 _ (Same.refl _))⟩⟩
            · walk_at "rd"
              refine k _ _ (f1.trans e3) ?_
              rw [f3]
              exact .non
          | n y ks =>
            obtain ⟨wa, ws, rfl, hws, hwk⟩ := word_n f2
            have hwl : ws.length = ks.length := by have := DpAll.length hwk; rw [List.length_map] at this; exact this
            cases hnum : isNum d with
            | false =>
              refine q_when true (fun Q1 q1 => ?_) (fun _ H3 e3 => ?_) (fun hb => nomatch hb)
              · walk_at "rd"
                refine ⟨_, rfl, isi1 hd1 (kb_str (.tuple _)) ⟨_, rfl, iteF ⟨_, rfl, _, _, rfl, hdd, fun H4 e4 => ⟨_, rfl, ?_⟩⟩⟩⟩
                rw [hnum]
                exact iteT (q1 _ e4)
              · walk_at "rd"
                refine k _ _ (f1.trans e3) ?_
                rw [f3, atP_num hnum]
                exact .non
            | true =>
              obtain ⟨m, rfl⟩ := num_nat hnum
              cases hdd
              cases hk : ks[m]? with
              | none =>
                refine q_when true (fun Q1 q1 => ?_) (fun _ H3 e3 => ?_) (fun hb => nomatch hb)
                · walk_at "rd"
                  refine ⟨_, rfl, isi1 hd1 (kb_str (.tuple _)) ⟨_, rfl, iteF ⟨_, rfl, _, _, rfl, .int _, fun H4 e4 => ⟨_, rfl, ?_⟩⟩⟩⟩
                  rw [hnum]
                  refine iteF ⟨_, rfl, _, rfl, wa, _, rfl, .inr (Same.tupL (hide_same.trans e4) hws), ?_⟩
                  refine ⟨_, _, rfl, rfl, _, _, rfl, rfl, _, rfl, ?_⟩
                  have hq : ks.length ≤ m := List.getElem?_eq_none_iff.mp hk
                  rw [show decide (((V.str y :: ws).length : Int) - 1 ≤ (m : Int)) = true by rw [List.length_cons, hwl]; exact decide_eq_true (by omega)]
                  exact q1 _ e4
                · walk_at "rd"
                  refine k _ _ (f1.trans e3) ?_
                  rw [f3, atP_int, hk]
                  exact .non
              | some kk =>
                refine q_when false (fun Q1 q1 => ?_) (fun hb => nomatch hb) (fun _ H3 e3 => ?_)
                · walk_at "rd"
                  refine ⟨_, rfl, isi1 hd1 (kb_str (.tuple _)) ⟨_, rfl, iteF ⟨_, rfl, _, _, rfl, .int _, fun H4 e4 => ⟨_, rfl, ?_⟩⟩⟩⟩
                  rw [hnum]
                  refine iteF ⟨_, rfl, _, rfl, wa, _, rfl, .inr (Same.tupL (hide_same.trans e4) hws), ?_⟩
                  refine ⟨_, _, rfl, rfl, _, _, rfl, rfl, _, rfl, ?_⟩
                  have hq : m < ks.length := (List.getElem?_eq_some_iff.mp hk).1
                  rw [show decide (((V.str y :: ws).length : Int) - 1 ≤ (m : Int)) = false by rw [List.length_cons, hwl]; exact decide_eq_false (by omega)]
                  exact q1 _ e4
                · walk_at "rd"
                  have hq : m < ks.length := (List.getElem?_eq_some_iff.mp hk).1
                  obtain ⟨vm, hvm⟩ : ∃ vm, ws[m]? = some vm := ⟨_, List.getElem?_eq_getElem (hwl ▸ hq)⟩
                  obtain ⟨dm, hdm, hvd⟩ := DpAll.get hwk hvm
                  rw [List.getElem?_map, hk] at hdm
                  cases Option.some.inj hdm
                  have hsz := T.sz_mem (List.mem_of_getElem? hk)
                  rw [T.sz] at f4
                  refine ⟨_, rfl, _, rfl, _, _, rfl, rfl, wa, _, _, vm, rfl, rfl, Same.tupL (hide_same.trans e3) hws, ?_, _, vm, kk, rfl, f1.trans e3, Dp.same (hide_mono e3) hvd, ?_, by omega⟩
                  · exact atI_nat (xs := V.str y :: ws) (j := m + 1) hvm
                  · rw [f3, atP_int, hk]
        · obtain ⟨u, v', t', rfl, f1, f2, f3, f4⟩ := q
          refine z _ _ ⟨u, v', t', rfl, f1, f2, ?_⟩
          rw [f3, hl, List.drop_length, atP_nil]
      · obtain ⟨u, v', t', rfl, f1, f2, f3⟩ := hp2
        walk_at "rd"
        refine ⟨_, rfl, k _ _ f1 ?_⟩
        rw [f3]
        exact f2

end
end WD

-- text: W8
set_option Elab.async false
set_option linter.all false
set_option maxRecDepth 100000
set_option maxHeartbeats 400000
namespace WD
open PySem PySem.Spec PyProof.Rows L2 GB GL
open DB hiding isi1 isiT
local macro_rules | `(tactic| walk_at "rd") => `(tactic| (dsimp only [cxOf, Cx.nox, L2.start, tRet, tRetN, tCB, tCons, tNil, tC, tVar, tTup, tLst, tB, tTest, tAnd, tOr, tNot, tAndV, tOrV, tNotV, tIfS, tIf, tSeq, tNext, tDrop, tOp, tUn, tAsg, gName, gSub, tSl, tPart, tNoPart, tCall, tPar, tBM, tChain, tYes, StX.tStar, tFld, tNotN, tIsN, tDNotIn, tDIn, tDGet, tDGet2, tDNewK, gTup, gCons, gNil, tLockE, iKeys, XR.iZipTN, sFld, sDPut, iEnum, XR.iEnumK, XR.iEnumT, iList, RZ.iZipA, iTup, iRng1, iRng2, tMake, tPar3, tRevL, XR.tTwo3, List.length_cons, List.length_nil, List.set_cons_zero, List.set_cons_succ, List.nil_append, List.cons_append, List.append_nil]))
section
variable {P : Program} {w : World} {K : PySem.W.Frag} {mg : Str → Option Value} {base : Heap}

/-- the word with another part at a place -/
def putP : T → List Nat → T → Option T
  | _, [], u => some u
  | .v _, _ :: _, _ => none
  | .n x ks, i :: is, u => match ks[i]? with
    | some k => (putP k is u).map fun k' => T.n x (ks.set i k')
    | none => none
theorem putP_nil (t u : T) : putP t [] u = some u := by cases t <;> rfl
theorem T.szs_len : ∀ ks : List T, ks.length ≤ T.szs ks
  | [] => Nat.le_refl _
  | k :: ks => by
    have := T.szs_len ks
    have h1 : 1 ≤ k.sz := by cases k <;> simp [T.sz]
    rw [T.szs, List.length_cons]
    omega
theorem slA {K : PySem.W.Frag} {a : Addr} {xs : List V} {lo hi : Option Int} {H : Hp} {Q : VK} (h : SqT K H a xs) (q : ∀ p H', Same H H' → SqT K H' p (cutV xs lo hi) → Q (.ref p) H') : rSlA K (.ref a) lo hi H Q := by
  refine ⟨a, xs, rfl, h, fun e => q a H (Same.refl _) ?_, fun _ p hp => q p _ (same_new hp _) (.inl (.inl upd_same))⟩
  unfold cutV
  rw [e.1, e.2, List.drop_zero, Nat.sub_zero, List.take_length]
  exact h
theorem cut_to {x : V} {xs : List V} {i : Nat} (h : i < xs.length) : cutV (x :: xs) none (some ((i : Int) + 1)) = x :: xs.take i := by
  unfold cutV
  rw [HT.sIx_none, List.drop_zero, Nat.sub_zero, show (i : Int) + 1 = ((i + 1 : Nat) : Int) from rfl, HT.sIx_nat, List.length_cons, show min (i + 1) (xs.length + 1) = i + 1 by omega, List.take_succ_cons]
theorem cut_from {x : V} {xs : List V} {i : Nat} (h : i < xs.length) : cutV (x :: xs) (some ((i : Int) + 1 + 1)) none = xs.drop (i + 1) := by
  unfold cutV
  rw [HT.sIx_none, show (i : Int) + 1 + 1 = ((i + 2 : Nat) : Int) from rfl, HT.sIx_nat, List.length_cons, show min (i + 2) (xs.length + 1) = i + 2 by omega, List.drop_succ_cons]
  exact List.take_of_length_le (by rw [List.length_drop]; omega)
abbrev st_with_part : Stmt := top 32
theorem sc_with_part : FnScope ["word", "place", "part", "at"] ["word", "place", "part"] (defScope st_with_part) := ⟨rfl, rfl, rfl, by decide +kernel, rfl, by decide +kernel, by decide +kernel⟩

def spWithPart (K : PySem.W.Frag) (n : Nat) : Sp := fun vs H Q _ => ∃ N v pa q t u ps r, vs = [v, .ref pa, q] ∧ Tr N H ∧ Dp K (hide N H) v (T.dat t) ∧ SqL K H pa (nV ps) ∧ Dp K (hide N H) q (T.dat u) ∧ putP t ps u = some r ∧ ps.length < n ∧ n ≤ 5000 ∧ t.sz ≤ 5000 ∧ ∀ v' H', Same H H' → Dp K (hide N H') v' r.dat → Q v' H'
theorem ok_with_part (G : Glob K mg) (D : Def K mg "with_part" st_with_part ["word", "place", "part"]) : ∀ n, Callee P w K mg base (n + 1) "with_part" ["word", "place", "part"] (spWithPart K n)
  | 0 => by
    obtain ⟨f, fd, F, b, m⟩ := D.ex
    refine ⟨f, fd, F.ok sc_with_part (fun vs H Q E h => ?_) (fun cdv A outer s H vs Q E hr h => ?_), b, F.kp, m⟩
    · obtain ⟨N, v, pa, q, t, u, ps, r, rfl, _⟩ := h
      rfl
    · obtain ⟨N, v, pa, q, t, u, ps, r, rfl, _, _, _, _, _, h, _⟩ := h
      exact absurd h (Nat.not_lt_zero _)
  | n + 1 => by
    have c_with_part := ok_with_part G D n
    obtain ⟨f, fd, F, b, m⟩ := D.ex
    have z_len := G.len
    refine ⟨f, fd, F.ok sc_with_part (fun vs H Q E h => ?_) (fun cdv A outer s H vs Q E hr h => ?_), b, F.kp, m⟩
    · obtain ⟨N, v, pa, q, t, u, ps, r, rfl, _⟩ := h
      rfl
    obtain ⟨N, v, pa, q, t, u, ps, r, rfl, hN, hd, hp, hu, hr0, hl, hn, hz, k⟩ := h
    have hr_with_part := hr
    refine ⟨_, (pss_cons (ps_if (pt_cmpR op_eq (pe_callB call_len_seq rfl z_len PySem.boot_len (pa_cons (pv 1) pa_nil)) pe_int (nomark _)) (pss_one (ps_ret (pv 2))) pss_nil) (pss_cons (ps_set (i := 3) sc_with_part.nd rfl (Or.inl rfl) (pe_op op_add (pe_ix ix_list (pv 1) pe_int (fun _ _ => rfl)) pe_int)) (pss_one (ps_ret (pe_tup (StX.pa_star (pe_slice sl_tupA (pv 0) po_none (po_some (pv 3))) (pa_cons (pe_own c_with_part hr_with_part rfl (pa_cons (pe_ix ix_tup (pv 0) (pv 3) (fun _ _ => rfl)) (pa_cons (pe_slice sl_list (pv 1) (po_some pe_int) po_none) (pa_cons (pv 2) pa_nil)))) (StX.pa_star (pe_slice sl_tupA (pv 0) (po_some (pe_op op_add (pv 3) pe_int)) po_none) pa_nil)))))))), ?_⟩
    cases ps with
    | nil =>
      rw [putP_nil] at hr0
      cases hr0
      walk_at "rd"
      refine ⟨_, rfl, pa, _, rfl, .inl hp, rfl, _, rfl, iteT ⟨_, rfl, k _ _ (Same.refl _) hu⟩⟩
    | cons i is =>
      cases t with
      | v y => cases hr0
      | n y ks =>
        obtain ⟨wa, ws, rfl, hws, hwk⟩ := word_n hd
        have hwl : ws.length = ks.length := by have := DpAll.length hwk; rw [List.length_map] at this; exact this
        rw [putP] at hr0
        cases hk : ks[i]? with
        | none => rw [hk] at hr0; cases hr0
        | some kk =>
          rw [hk] at hr0
          cases hpk : putP kk is u with
          | none => 
            simp only [hpk] at hr0
            cases hr0
          | some k' =>
            simp only [hpk] at hr0
            cases hr0
            walk_at "rd"
            have hq : i < ws.length := hwl ▸ (List.getElem?_eq_some_iff.mp hk).1
            refine ⟨_, rfl, pa, _, rfl, .inl hp, rfl, _, rfl, iteF ⟨_, rfl, pa, _, 0, _, rfl, rfl, hp, atI_nat (j := 0) rfl, _, _, rfl, rfl, _, rfl, _, rfl, _, rfl, slA (Same.tupL hide_same hws) fun p1 H1 e1 h1 => ⟨p1, _, rfl, .inl h1, _, rfl, _, rfl, ?_⟩⟩⟩
            obtain ⟨vm, hvm⟩ : ∃ vm, ws[i]? = some vm := ⟨_, List.getElem?_eq_getElem hq⟩
            obtain ⟨dm, hdm, hvd⟩ := DpAll.get hwk hvm
            rw [List.getElem?_map, hk] at hdm
            cases Option.some.inj hdm
            have hsz := T.sz_mem (List.mem_of_getElem? hk)
            rw [T.sz] at hz
            rw [List.length_cons] at hl
            refine ⟨wa, _, _, vm, rfl, rfl, Same.tupL (hide_same.trans e1) hws, atI_nat (xs := V.str y :: ws) (j := i + 1) hvm, _, rfl, _, rfl, pa, _, rfl, Same.seq e1 hp, fun p2 hp2 => ⟨_, rfl, ?_⟩⟩
            have e2 := e1.trans (same_new hp2 (.lst (cutV (nV (i :: is)) (some 1) none)))
            refine ⟨N, vm, p2, q, kk, u, is, k', rfl, hN.same e2, Dp.same (hide_mono e2) hvd, ?_, Dp.same (hide_mono e2) hu, hpk, by omega, by omega, by omega, fun v3 H3 e3 h3 => ?_⟩
            · have := cut1 (.int (i : Nat)) (nV is)
              have h1 : cutV (nV (i :: is)) (some 1) none = nV is := this
              rw [h1]
              exact .inl (.inl upd_same)
            have s3 := e2.trans e3
            refine ⟨_, rfl, _, rfl, _, _, rfl, rfl, _, rfl, slA (Same.tupL (hide_same.trans s3) hws) fun p4 H4 e4 h4 => ⟨p4, _, rfl, .inl h4, ?_, fun p5 hp5 => k _ _ ((s3.trans e4).trans (same_new hp5 _)) ?_⟩⟩
            · rw [cut_to hq, cut_from hq]
              have hw2 := T.szs_len ks
              exact Nat.le_trans (show _ ≤ 100000 by simp; omega) (by rw [sizeLine_eq]; decide)
            · have e5 := (s3.trans e4).trans (same_new hp5 (.tup (cutV (V.str y :: ws) none (some (↑i + 1)) ++ v3 :: (cutV (V.str y :: ws) (some (↑i + 1 + 1)) none ++ []))))
              have e6 := e4.trans (same_new hp5 (.tup (cutV (V.str y :: ws) none (some (↑i + 1)) ++ v3 :: (cutV (V.str y :: ws) (some (↑i + 1 + 1)) none ++ []))))
              have hset : ks.set i k' = ks.take i ++ k' :: ks.drop (i + 1) := by rw [List.set_eq_take_append_cons_drop, if_pos (hwl ▸ hq)]
              rw [T.dat, T.dats_map, hset]
              refine .tup (.inl (.inl (hide_upd ((hN.same (s3.trans e4)).off hp5)))) ?_
              rw [cut_to hq, cut_from hq] at e5 e6 ⊢
              rw [List.append_nil] at e5 e6
              rw [List.append_nil, List.map_append, List.map_cons]
              refine .cons (.str _) (DpAll.app ?_ (.cons (Dp.same (hide_mono e6) h3) ?_))
              · rw [List.map_take]
                exact DpAll.take' _ (DpAll.same (hide_mono e5) hwk)
              · rw [List.map_drop]
                exact DpAll.drop _ (DpAll.same (hide_mono e5) hwk)
end
end WD

-- text: W9
set_option Elab.async false
set_option linter.all false
set_option maxRecDepth 100000
set_option maxHeartbeats 400000
namespace WD
open PySem PySem.Spec PyProof.Rows L2 GB GL
open DB hiding isi1 isiT
local macro_rules | `(tactic| walk_at "rd") => `(tactic| (dsimp only [cxOf, Cx.nox, L2.start, tRet, tRetN, tCB, tCons, tNil, tC, tVar, tTup, tLst, tB, tTest, tAnd, tOr, tNot, tAndV, tOrV, tNotV, tIfS, tIf, tSeq, tNext, tDrop, tOp, tUn, tAsg, gName, gSub, tSl, tPart, tNoPart, tCall, tPar, tBM, tChain, tYes, StX.tStar, tFld, tNotN, tIsN, tDNotIn, tDIn, tDGet, tDGet2, tDNewK, gTup, gCons, gNil, tLockE, iKeys, XR.iZipTN, sFld, sDPut, iEnum, XR.iEnumK, XR.iEnumT, iList, RZ.iZipA, iTup, iRng1, iRng2, tMake, tPar3, tRevL, XR.tTwo3, List.length_cons, List.length_nil, List.set_cons_zero, List.set_cons_succ, List.nil_append, List.cons_append, List.append_nil]))
section
variable {P : Program} {w : World} {K : PySem.W.Frag} {mg : Str → Option Value} {base : Heap}

mutual
/-- how deep a word is -/
def T.dp : T → Nat
  | .v _ => 0
  | .n _ ks => T.dps ks
def T.dps : List T → Nat
  | [] => 0
  | k :: ks => max (1 + k.dp) (T.dps ks)
end
theorem dps_ge : ∀ {ks : List T} {k : T}, k ∈ ks → 1 + k.dp ≤ T.dps ks
  | [], _, h => by cases h
  | a :: ks, k, h => by
    rw [T.dps]
    rcases List.mem_cons.mp h with rfl | h
    · omega
    · have := dps_ge h
      omega
theorem dps_le : ∀ {ks : List T} {m : Nat}, (∀ k ∈ ks, k.dp ≤ m) → ks ≠ [] → T.dps ks ≤ 1 + m
  | [], _, _, h => absurd rfl h
  | [a], m, h, _ => by
    have := h a (List.mem_singleton.mpr rfl)
    rw [T.dps, T.dps]
    omega
  | a :: b :: ks, m, h, _ => by
    have h1 := h a (List.mem_cons_self ..)
    have h2 := dps_le (ks := b :: ks) (m := m) (fun k hk => h k (List.mem_cons_of_mem _ hk)) (by simp)
    rw [T.dps]
    omega
theorem dps_max {ks : List T} {m : Int} (h0 : ks ≠ []) (hm : m ∈ ks.map fun k => (k.dp : Int)) (h : ∀ y ∈ (ks.map fun k => (k.dp : Int)), y ≤ m) : 1 + m = (T.dps ks : Nat) := by
  obtain ⟨k, hk, rfl⟩ := List.mem_map.mp hm
  have h1 := dps_ge hk
  have h2 := dps_le (ks := ks) (m := k.dp) (fun a ha => by have := h _ (List.mem_map.mpr ⟨a, ha, rfl⟩); omega) h0
  omega
abbrev st_depth_in : Stmt := top 34
theorem sc_depth_in : FnScope ["word", "part"] ["word"] (defScope st_depth_in) := ⟨rfl, rfl, rfl, by decide +kernel, rfl, by decide +kernel, by decide +kernel⟩

def spDepthIn (K : PySem.W.Frag) (n : Nat) : Sp := fun vs H Q _ => ∃ N v t, vs = [v] ∧ Tr N H ∧ Dp K (hide N H) v (T.dat t) ∧ t.ht < n ∧ t.sz ≤ 5000 ∧ ∀ H', Same H H' → Q (.int (t.dp : Nat)) H'
theorem ok_depth_in (G : Glob K mg) (D : Def K mg "depth_in" st_depth_in ["word"]) : ∀ n, Callee P w K mg base (n + 1) "depth_in" ["word"] (spDepthIn K n)
  | 0 => by
    obtain ⟨f, fd, F, b, m⟩ := D.ex
    refine ⟨f, fd, F.ok sc_depth_in (fun vs H Q E h => ?_) (fun cdv A outer s H vs Q E hr h => ?_), b, F.kp, m⟩
    · obtain ⟨N, v, t, rfl, _⟩ := h
      rfl
    · obtain ⟨N, v, t, rfl, _, _, h, _⟩ := h
      exact absurd h (Nat.not_lt_zero _)
  | n + 1 => by
    have c_depth_in := ok_depth_in G D n
    obtain ⟨f, fd, F, b, m⟩ := D.ex
    have z_len := G.len
    have z_isinstance := G.isinstance
    have z_str := G.str
    have z_max := G.max
    refine ⟨f, fd, F.ok sc_depth_in (fun vs H Q E h => ?_) (fun cdv A outer s H vs Q E hr h => ?_), b, F.kp, m⟩
    · obtain ⟨N, v, t, rfl, _⟩ := h
      rfl
    obtain ⟨N, v, t, rfl, hN, hd, hh, hz, k⟩ := h
    have hr_depth_in := hr
    refine ⟨_, (pss_cons (ps_if (PW.pt (pw_or (pt_val (pe_callB call_isi rfl z_isinstance boot_isinstance (pa_cons (pv 0) (pa_cons (pe_bltn (v := .ty "str") rfl z_str boot_str rfl) pa_nil)))) (pw_or1 (pt_cmpR op_eq (pe_callB call_len_seq rfl z_len PySem.boot_len (pa_cons (pv 0) pa_nil)) pe_int (nomark _))))) (pss_one (ps_ret pe_int)) pss_nil) (pss_one (ps_ret (pe_op op_add pe_int (pe_callB (cr_max rfl) rfl z_max (by decide +kernel) (pa_cons (pe_lc (own := [("part", 1)]) (g := (gName 1)) (tt := tYes) rfl sc_depth_in.nd (pi_tup (pe_slice sl_tupA (pv 0) (po_some pe_int) po_none)) (blkOk_by (N := ["word", "part"]) (sc := defScope st_depth_in) (by decide +kernel)) (fun _ _ _ _ _ => (pg_name (i := 1) sc_depth_in.nd rfl (Or.inl rfl))) (fun _ _ _ _ _ => pts_nil) (fun _ _ _ _ _ => (pe_own c_depth_in hr_depth_in rfl (pa_cons (pv 1) pa_nil)))) pa_nil)))))), ?_⟩
    have hd1 : DE K H v t.dat := DE.of (Dp.same hide_same hd)
    cases t with
    | v y =>
      walk_at "rd"
      exact ⟨_, rfl, isi1 hd1 (kb_str (.str y)) ⟨_, rfl, iteT (iteT (k _ (Same.refl _)))⟩⟩
    | n y ks =>
      obtain ⟨wa, ws, rfl, hws, hwk⟩ := word_n hd
      have hwl : ws.length = ks.length := by have := DpAll.length hwk; rw [List.length_map] at this; exact this
      walk_at "rd"
      refine ⟨_, rfl, isi1 hd1 (kb_str (.tuple _)) ⟨_, rfl, iteF ?_⟩⟩
      refine ⟨_, rfl, wa, _, rfl, .inr (Same.tupL hide_same hws), rfl, _, rfl, ?_⟩
      rw [dec_int]
      refine ite_b (fun e1 => ?_) (fun e1 => ?_)
      · have e2 : ks = [] := by
          have := eq_of_beq e1
          rw [List.length_cons, hwl] at this
          exact List.eq_nil_of_length_eq_zero (by omega)
        subst e2
        exact k _ (Same.refl _)
      · have e2 : ks ≠ [] := fun q => by
          subst q
          rw [List.length_cons, hwl] at e1
          cases e1
        have hz1 := hz
        rw [T.sz] at hz1
        have hsl := T.szs_len ks
        rw [T.ht] at hh
        refine rd_lc ?_
        walk_at "rd"
        refine ⟨_, rfl, 1, rfl, wa, _, rfl, Same.tupL hide_same hws, fun q => absurd q (cut1_ne _ _), fun _ p hp => ?_⟩
        rw [cut1]
        refine ⟨p, rfl, ⟨_, .inl (.inl upd_same)⟩, ?_⟩
        have sX := same_new hp (.tup ws)
        refine lcp (K := K) (N := N) (hN.same sX) (src_tup (.inl (.inl upd_same))) (by omega) (fun _ => true) (fun i => (fun k : T => PyData.int (k.dp : Nat)) (ks.getD i (.v ""))) (fun i y Hq N7 Q2 Q3 hq e7 r7 tr7 hs7 q2 q3 => ?_) (fun Dl Hq ys7 nD e7 hy7 da => ?_)
        · obtain ⟨d7, hd7, hy7⟩ := DpAll.get (DpAll.same ((hide_mono sX).trans hs7) hwk) r7
          rw [List.getElem?_map] at hd7
          obtain ⟨k7, hk7, rfl⟩ := Option.map_eq_some_iff.mp hd7
          have hm7 := List.mem_of_getElem? hk7
          have h1 := T.ht_mem hm7
          have h2 := T.sz_mem hm7
          walk_at "rd"
          refine ⟨rfl, iteT ?_⟩
          refine ⟨_, rfl, N7, y, k7, rfl, tr7, hy7, by omega, by omega, fun H' e' => q2 _ _ e' rfl ?_⟩
          rw [List.getD_eq_getElem?_getD, hk7]
          exact .int _
        · have ed := map_range ks (fun k : T => PyData.int (k.dp : Nat)) (.v "")
          rw [hwl, ed] at da
          have ey := DpAll.ints (ns := ks.map fun k => ((k.dp : Nat) : Int)) (by rw [List.map_map]; exact da)
          subst ey
          refine ⟨Dl, _, rfl, .inl (.inl hy7), ?_, fun m hm hm2 => ⟨_, _, rfl, rfl, ?_⟩⟩
          · rw [List.length_map]
            exact List.length_pos_iff.mpr e2
          · have := k _ (sX.trans e7)
            rw [T.dp, ← dps_max e2 hm hm2] at this
            exact this
end
end WD

-- text: W10
set_option Elab.async false
set_option linter.all false
set_option maxRecDepth 100000
set_option maxHeartbeats 400000
namespace WD
open PySem PySem.Spec PyProof.Rows L2 GB GL
open DB hiding isi1 isiT
local macro_rules | `(tactic| walk_at "rd") => `(tactic| (dsimp only [cxOf, Cx.nox, L2.start, tRet, tRetN, tCB, tCons, tNil, tC, tVar, tTup, tLst, tB, tTest, tAnd, tOr, tNot, tAndV, tOrV, tNotV, tIfS, tIf, tSeq, tNext, tDrop, tOp, tUn, tAsg, gName, gSub, tSl, tPart, tNoPart, tCall, tPar, tBM, tChain, tYes, StX.tStar, tFld, tNotN, tIsN, tDNotIn, tDIn, tDGet, tDGet2, tDNewK, gTup, gCons, gNil, tLockE, iKeys, XR.iZipTN, sFld, sDPut, iEnum, XR.iEnumK, XR.iEnumT, iList, RZ.iZipA, iTup, iRng1, iRng2, tMake, tPar3, tRevL, XR.tTwo3, List.length_cons, List.length_nil, List.set_cons_zero, List.set_cons_succ, List.nil_append, List.cons_append, List.append_nil]))
section
variable {P : Program} {w : World} {K : PySem.W.Frag} {mg : Str → Option Value} {base : Heap}
abbrev st_places : Stmt := top 35
theorem sc_places : FnScope ["word"] ["word"] (defScope st_places) := ⟨rfl, rfl, rfl, by decide +kernel, rfl, by decide +kernel, by decide +kernel⟩
abbrev st_depth : Stmt := top 39
theorem sc_depth : FnScope ["word"] ["word"] (defScope st_depth) := ⟨rfl, rfl, rfl, by decide +kernel, rfl, by decide +kernel, by decide +kernel⟩

/-- what a handed word is checked to -/
def Chk (K : PySem.W.Frag) (CW : Addr) (n : Nat) (v : V) (H : Hp) (E : XK) (R : T → Prop) : Prop := ∃ N d, Tr N H ∧ DE K (hide N H) v d ∧ okz d = true ∧ d.depth < n ∧
  (∀ t, chkW d = some t → t.ht < n ∧ t.sz ≤ 5000 ∧ R t) ∧ (chkW d = none → ∀ H1, Same H H1 → Left CW "thing" v H1 E)
def spPlaces (K : PySem.W.Frag) (CW : Addr) (n : Nat) : Sp := fun vs H Q E => ∃ v, vs = [v] ∧ Chk K CW n v H E fun t => ∀ H' l ys, Same H H' → H l = none → H' l = some (.lst ys) → Paired (NewL H H') ys (plT t) → Q (.ref l) H'
def spDepth (K : PySem.W.Frag) (CW : Addr) (n : Nat) : Sp := fun vs H Q E => ∃ v, vs = [v] ∧ Chk K CW n v H E fun t => ∀ H', Same H H' → Q (.int (t.dp : Nat)) H'
theorem NewL.before {H H1 H' : Hp} {v : V} {pl : List Nat} (e : Same H H1) (h : NewL H1 H' v pl) : NewL H H' v pl := by
  obtain ⟨a, b, c, d⟩ := h
  exact ⟨a, b, none_of_none e c, d⟩
theorem ok_places (D : Def K mg "places" st_places ["word"]) {CW : Addr} {n j : Nat} (hn : n ≤ 4000) (hj : n + 1 ≤ j) (c_checked_word : CalleeX P w K mg base j "checked_word" ["thing"] (spChecked K CW n)) (c_places_in : Callee P w K mg base (n + 1) "places_in" ["word", "place"] (spPlacesIn K n)) : CalleeX P w K mg base (j + 1) "places" ["word"] (spPlaces K CW n) := by
  obtain ⟨f, fd, F, b, m⟩ := D.ex
  refine ⟨f, fd, F.okX sc_places (fun vs H Q E h => ?_) (fun cdv A outer s H vs Q E hr h => ?_), b, F.kp, m⟩
  · obtain ⟨v, rfl, _⟩ := h
    rfl
  obtain ⟨v, rfl, N, d, hN, hd, hz, hdp, k1, k2⟩ := h
  have hr_checked_word := hr
  have hr_places_in := hr.mono hj
  refine ⟨_, (pss_one (ps_ret (pe_own c_places_in hr_places_in rfl (pa_cons (pe_ownX (E := E) c_checked_word hr_checked_word rfl (takes_of rfl rfl rfl rfl) (fun _ _ _ _ h => h) (pa_cons (pv 0) pa_nil)) (pa_cons (pe_lst pa_nil) pa_nil))))), ?_⟩
  walk_at "rd"
  refine ⟨_, rfl, N, v, d, rfl, hN, hd, hz, hdp, fun t ht v' H1 e1 h1 => ?_, k2⟩
  obtain ⟨q1, q2, q3⟩ := k1 t ht
  refine ⟨Nat.zero_le _, fun p hp => ?_⟩
  have e2 := e1.trans (same_new hp (.lst []))
  refine ⟨N, v', p, t, [], rfl, hN.same e2, Dp.same (hide_mono (same_new hp _)) h1, .inl (.inl upd_same), q1, q2, show 0 + n ≤ 5000 by omega, fun H' l ys e3 hl hy hq => ?_⟩
  refine q3 H' l ys (e2.trans e3) (none_of_none e2 hl) hy ?_
  have : (plT t).map (fun x => [] ++ x) = plT t := by simp
  rw [this] at hq
  exact paired_imp (fun _ _ q => q.before e2) hq
theorem ok_depth (D : Def K mg "depth" st_depth ["word"]) {CW : Addr} {n j : Nat} (hj : n + 1 ≤ j) (c_checked_word : CalleeX P w K mg base j "checked_word" ["thing"] (spChecked K CW n)) (c_depth_in : Callee P w K mg base (n + 1) "depth_in" ["word"] (spDepthIn K n)) : CalleeX P w K mg base (j + 1) "depth" ["word"] (spDepth K CW n) := by
  obtain ⟨f, fd, F, b, m⟩ := D.ex
  refine ⟨f, fd, F.okX sc_depth (fun vs H Q E h => ?_) (fun cdv A outer s H vs Q E hr h => ?_), b, F.kp, m⟩
  · obtain ⟨v, rfl, _⟩ := h
    rfl
  obtain ⟨v, rfl, N, d, hN, hd, hz, hdp, k1, k2⟩ := h
  have hr_checked_word := hr
  have hr_depth_in := hr.mono hj
  refine ⟨_, (pss_one (ps_ret (pe_own c_depth_in hr_depth_in rfl (pa_cons (pe_ownX (E := E) c_checked_word hr_checked_word rfl (takes_of rfl rfl rfl rfl) (fun _ _ _ _ h => h) (pa_cons (pv 0) pa_nil)) pa_nil)))), ?_⟩
  walk_at "rd"
  refine ⟨_, rfl, N, v, d, rfl, hN, hd, hz, hdp, fun t ht v' H1 e1 h1 => ?_, k2⟩
  obtain ⟨q1, q2, q3⟩ := k1 t ht
  exact ⟨N, v', t, rfl, hN.same e1, h1, q1, q2, fun H' e2 => q3 H' (e1.trans e2)⟩
end
end WD

-- text: W11
set_option Elab.async false
set_option linter.all false
set_option maxRecDepth 100000
set_option maxHeartbeats 400000
namespace WD
open PySem PySem.Spec PyProof.Rows L2 GB GL
open DB hiding isi1 isiT
local macro_rules | `(tactic| walk_at "rd") => `(tactic| (dsimp only [cxOf, Cx.nox, L2.start, tRet, tRetN, tCB, tCons, tNil, tC, tVar, tTup, tLst, tB, tTest, tAnd, tOr, tNot, tAndV, tOrV, tNotV, tIfS, tIf, tSeq, tNext, tDrop, tOp, tUn, tAsg, gName, gSub, tSl, tPart, tNoPart, tCall, tPar, tBM, tChain, tYes, StX.tStar, tFld, tNotN, tIsN, tDNotIn, tDIn, tDGet, tDGet2, tDNewK, gTup, gCons, gNil, tLockE, iKeys, XR.iZipTN, sFld, sDPut, iEnum, XR.iEnumK, XR.iEnumT, iList, RZ.iZipA, iTup, iRng1, iRng2, tMake, tPar3, tRevL, XR.tTwo3, List.length_cons, List.length_nil, List.set_cons_zero, List.set_cons_succ, List.nil_append, List.cons_append, List.append_nil]))
section
variable {P : Program} {w : World} {K : PySem.W.Frag} {mg : Str → Option Value} {base : Heap}

def insS (acc : List Str) (x : Str) : List Str := if x ∈ acc then acc else acc ++ [x]
mutual
/-- the variables of a word behind those that are met -/
def metP : T → List Str → List Str
  | .v x, acc => insS acc x
  | .n _ ks, acc => metPs ks acc
def metPs : List T → List Str → List Str
  | [], acc => acc
  | k :: ks, acc => metPs ks (metP k acc)
end
theorem metPs_app : ∀ (ks ls : List T) (acc : List Str), metPs (ks ++ ls) acc = metPs ls (metPs ks acc)
  | [], _, _ => rfl
  | k :: ks, ls, acc => by rw [List.cons_append, metPs, metPs, metPs_app ks ls]
mutual
theorem met_len : ∀ (t : T) (acc : List Str), (metP t acc).length ≤ acc.length + t.sz
  | .v x, acc => by
    rw [metP, insS, T.sz]
    split
    · omega
    · rw [List.length_append]; exact Nat.le_refl _
  | .n _ ks, acc => by
    have := mets_len ks acc
    rw [metP, T.sz]
    omega
theorem mets_len : ∀ (ks : List T) (acc : List Str), (metPs ks acc).length ≤ acc.length + T.szs ks
  | [], acc => Nat.le_refl _
  | k :: ks, acc => by
    have h1 := met_len k acc
    have h2 := mets_len ks (metP k acc)
    rw [metPs, T.szs]
    omega
end
def kvsOf (acc : List Str) : List (Key × V) := acc.map fun x => ((.inr x : Key), V.bl true)
theorem put_kvs (acc : List Str) (x : Str) : putK (kvsOf acc) (.inr x) (.bl true) = kvsOf (insS acc x) := by
  unfold putK insS kvsOf
  by_cases h : x ∈ acc
  · rw [if_pos h, if_pos (by rw [List.any_map, List.any_eq_true]; exact ⟨x, h, decide_eq_true rfl⟩), List.map_map]
    refine List.map_congr_left fun y _ => ?_
    show (if (Sum.inr y : Key) = Sum.inr x then ((Sum.inr y : Key), V.bl true) else (Sum.inr y, V.bl true)) = _
    split <;> rfl
  · rw [if_neg h, if_neg (by
      rw [List.any_map, List.any_eq_true]
      rintro ⟨y, hy, e⟩
      exact h (by cases of_decide_eq_true e; exact hy)), List.map_append]
    rfl
/-- all but D is kept -/
def KeptD (D : Addr) (H H' : Hp) : Prop := ∀ a o, a ≠ D → H a = some o → H' a = some o
theorem KeptD.refl {D : Addr} {H : Hp} : KeptD D H H := fun _ _ _ h => h
theorem KeptD.of {D : Addr} {H H' : Hp} (e : Same H H') : KeptD D H H' := fun a o _ h => e a o h
theorem KeptD.trans {D : Addr} {H H1 H' : Hp} (a : KeptD D H H1) (b : KeptD D H1 H') : KeptD D H H' := fun x o n h => b x o n (a x o n h)
theorem KeptD.hide {D : Addr} {N : Addr → Prop} {H H' : Hp} (k : KeptD D H H') (n : N D) : Same (hide N H) (hide N H') := fun a o q => by
  by_cases h : N a
  · rw [hide_on h] at q
    cases q
  · rw [hide_off h] at q ⊢
    exact k a o (fun z => h (z ▸ n)) q
theorem KeptD.tr {D : Addr} {N : Addr → Prop} {H H' : Hp} (k : KeptD D H H') (t : Tr N H) (h : H' D ≠ none) : Tr N H' := fun a n q => by
  by_cases e : a = D
  · exact h (e ▸ q)
  · cases w : H a with
    | none => exact t a n w
    | some o => rw [k a o e w] at q; cases q
abbrev st_met_in : Stmt := top 33
theorem sc_met_in : FnScope ["word", "known", "part"] ["word", "known"] (defScope st_met_in) := ⟨rfl, rfl, rfl, by decide +kernel, rfl, by decide +kernel, by decide +kernel⟩

def spMetIn (K : PySem.W.Frag) (n : Nat) : Sp := fun vs H Q _ => ∃ N v D t acc, vs = [v, .ref D] ∧ Tr N H ∧ N D ∧ Dp K (hide N H) v (T.dat t) ∧ H D = some (.dK (kvsOf acc)) ∧ t.ht < n ∧ acc.length + t.sz ≤ 10000 ∧ ∀ H', KeptD D H H' → H' D = some (.dK (kvsOf (metP t acc))) → Q (.ref D) H'
theorem ok_met_in (G : Glob K mg) (D : Def K mg "met_in" st_met_in ["word", "known"]) : ∀ n, Callee P w K mg base (n + 1) "met_in" ["word", "known"] (spMetIn K n)
  | 0 => by
    obtain ⟨f, fd, F, b, m⟩ := D.ex
    refine ⟨f, fd, F.ok sc_met_in (fun vs H Q E h => ?_) (fun cdv A outer s H vs Q E hr h => ?_), b, F.kp, m⟩
    · obtain ⟨N, v, D, t, acc, rfl, _⟩ := h
      rfl
    · obtain ⟨N, v, D, t, acc, rfl, _, _, _, _, h, _⟩ := h
      exact absurd h (Nat.not_lt_zero _)
  | n + 1 => by
    have c_met_in := ok_met_in G D n
    obtain ⟨f, fd, F, b, m⟩ := D.ex
    have z_isinstance := G.isinstance
    have z_str := G.str
    refine ⟨f, fd, F.ok sc_met_in (fun vs H Q E h => ?_) (fun cdv A outer s H vs Q E hr h => ?_), b, F.kp, m⟩
    · obtain ⟨N, v, D, t, acc, rfl, _⟩ := h
      rfl
    obtain ⟨N, v, D, t, acc, rfl, hN, hND, hd, hD, hh, hz, k⟩ := h
    have hr_met_in := hr
    have hu := hu_of hr
    refine ⟨_, (pss_cons (ps_if (pt_val (pe_callB call_isi rfl z_isinstance boot_isinstance (pa_cons (pv 0) (pa_cons (pe_bltn (v := .ty "str") rfl z_str boot_str rfl) pa_nil)))) (pss_one (ps_dput hu (pv 1) (pv 0) pe_bl rfl)) (pss_one (ps_for PassesOwn.never rfl (pi_tup (pe_slice sl_tupA (pv 0) (po_some pe_int) po_none)) (pg_name (i := 2) sc_met_in.nd rfl (Or.inl rfl)) (pss_one (ps_expr (pe_own c_met_in hr_met_in rfl (pa_cons (pv 2) (pa_cons (pv 1) pa_nil)))))))) (pss_one (ps_ret (pv 1)))), ?_⟩
    have hd1 : DE K H v t.dat := DE.of (Dp.same hide_same hd)
    cases t with
    | v y =>
      walk_at "rd"
      refine ⟨_, rfl, isi1 hd1 (kb_str (.str y)) ⟨_, rfl, iteT ?_⟩⟩
      cases hd
      have hl : (kvsOf acc).length < sizeLine := by
        unfold kvsOf
        rw [List.length_map]
        exact Nat.lt_of_le_of_lt (show acc.length ≤ 10000 by omega) (by rw [sizeLine_eq]; decide)
      refine ⟨_, rfl, _, rfl, D, _, rfl, DPut.k (k := .inr y) hD hl, _, rfl, k _ (fun a o h q => by rw [upd_ne h]; exact q) ?_⟩
      rw [upd_same, put_kvs]
      rfl
    | n y ks =>
      obtain ⟨wa, ws, rfl, hws, hwk⟩ := word_n hd
      have hwl : ws.length = ks.length := by have := DpAll.length hwk; rw [List.length_map] at this; exact this
      walk_at "rd"
      refine ⟨_, rfl, isi1 hd1 (kb_str (.tuple _)) ⟨_, rfl, iteF ?_⟩⟩
      rw [T.ht] at hh
      rw [T.sz] at hz
      refine rd_for ?_
      walk_at "rd"
      refine ⟨_, rfl, 1, rfl, wa, _, rfl, Same.tupL hide_same hws, fun q => absurd q (cut1_ne _ _), fun _ p hp => ?_⟩
      rw [cut1]
      refine ⟨p, rfl, ⟨ws, .inl (.inl upd_same)⟩, ?_⟩
      have npD : p ≠ D := fun q => by subst q; rw [hp] at hD; cases hD
      have s1 := same_new hp (.tup ws)
      refine forq (sp_tup (K := K) (xs := ws)) (fun i σ' H' => ∃ u, σ' = [some (.ref wa), some (.ref D), u] ∧ KeptD D H H' ∧ SqT K H' p ws ∧ H' p = some (.tup ws) ∧ H' D = some (.dK (kvsOf (metPs (ks.take i) acc)))) ⟨_, rfl, .of s1, .inl (.inl upd_same), upd_same, s1 _ _ hD⟩ (fun i σ' H' q => ?_) (fun i x σ' H0' H' hi q e hr' => ?_) (fun σ' H' q => ?_)
      · obtain ⟨_, _, _, h, _⟩ := q
        exact h
      · obtain ⟨u, rfl, f1, f2, f3, f4⟩ := q
        obtain ⟨hx, rfl⟩ := hr'
        refine (?_ : tDrop _ _ [some (.ref wa), some (.ref D), some x] H')
        have c1 := f1.hide hND
        obtain ⟨d7, hd7, hy7⟩ := DpAll.get (DpAll.same c1 hwk) hx
        rw [List.getElem?_map] at hd7
        obtain ⟨k7, hk7, rfl⟩ := Option.map_eq_some_iff.mp hd7
        have hm7 := List.mem_of_getElem? hk7
        have h1 := T.ht_mem hm7
        have h2 := szs_take hk7
        have h3 := mets_len (ks.take i) acc
        walk_at "rd"
        refine ⟨_, rfl, _, rfl, N, x, D, k7, _, rfl, f1.tr hN (by rw [f4]; exact fun z => nomatch z), hND, hy7, f4, by omega, by omega, fun H1 g1 g2 => ⟨_, rfl, f1.trans g1, .inl (.inl (g1 _ _ npD f3)), g1 _ _ npD f3, ?_⟩⟩
        rw [take_snoc hk7, metPs_app]
        exact g2
      · obtain ⟨u, rfl, f1, f2, f3, f4⟩ := q
        walk_at "rd"
        refine ⟨_, rfl, k _ f1 ?_⟩
        rw [hwl, List.take_length] at f4
        exact f4
end
end WD

-- text: W12
set_option Elab.async false
set_option linter.all false
set_option maxRecDepth 100000
set_option maxHeartbeats 400000
namespace WD
open PySem PySem.Spec PyProof.Rows L2 GB GL
open DB hiding isi1 isiT
local macro_rules | `(tactic| walk_at "rd") => `(tactic| (dsimp only [cxOf, Cx.nox, L2.start, tRet, tRetN, tCB, tCons, tNil, tC, tVar, tTup, tLst, tB, tTest, tAnd, tOr, tNot, tAndV, tOrV, tNotV, tIfS, tIf, tSeq, tNext, tDrop, tOp, tUn, tAsg, gName, gSub, tSl, tPart, tNoPart, tCall, tPar, tBM, tChain, tYes, StX.tStar, tFld, tNotN, tIsN, tDNotIn, tDIn, tDGet, tDGet2, tDNewK, gTup, gCons, gNil, tLockE, iKeys, XR.iZipTN, sFld, sDPut, iEnum, XR.iEnumK, XR.iEnumT, iList, RZ.iZipA, iTup, iRng1, iRng2, tMake, tPar3, tRevL, XR.tTwo3, List.length_cons, List.length_nil, List.set_cons_zero, List.set_cons_succ, List.nil_append, List.cons_append, List.append_nil]))
section
variable {P : Program} {w : World} {K : PySem.W.Frag} {mg : Str → Option Value} {base : Heap}
abbrev st_variables_of : Stmt := top 40
theorem sc_variables_of : FnScope ["word"] ["word"] (defScope st_variables_of) := ⟨rfl, rfl, rfl, by decide +kernel, rfl, by decide +kernel, by decide +kernel⟩

def spVariables (K : PySem.W.Frag) (CW : Addr) (n : Nat) : Sp := fun vs H Q E => ∃ v, vs = [v] ∧ Chk K CW n v H E fun t => ∀ H' l, Same H H' → H l = none → H' l = some (.lst ((metP t []).map V.str)) → Q (.ref l) H'
theorem kvs_keys (acc : List Str) : ((kvsOf acc).map fun kv => kV kv.1) = acc.map V.str := by
  unfold kvsOf
  rw [List.map_map]
  rfl
theorem ok_variables_of (G : Glob K mg) (D : Def K mg "variables_of" st_variables_of ["word"]) {CW : Addr} {n j : Nat} (hj : n + 1 ≤ j) (c_checked_word : CalleeX P w K mg base j "checked_word" ["thing"] (spChecked K CW n)) (c_met_in : Callee P w K mg base (n + 1) "met_in" ["word", "known"] (spMetIn K n)) : CalleeX P w K mg base (j + 1) "variables_of" ["word"] (spVariables K CW n) := by
  obtain ⟨f, fd, F, b, m⟩ := D.ex
  have z_list := G.list
  refine ⟨f, fd, F.okX sc_variables_of (fun vs H Q E h => ?_) (fun cdv A outer s H vs Q E hr h => ?_), b, F.kp, m⟩
  · obtain ⟨v, rfl, _⟩ := h
    rfl
  obtain ⟨v, rfl, N, d, hN, hd, hz, hdp, k1, k2⟩ := h
  have hr_checked_word := hr
  have hr_met_in := hr.mono hj
  refine ⟨_, (pss_one (ps_ret (pe_callTy (call_list_dK rfl) rfl z_list boot_list (pa_cons (pe_own c_met_in hr_met_in rfl (pa_cons (pe_ownX (E := E) c_checked_word hr_checked_word rfl (takes_of rfl rfl rfl rfl) (fun _ _ _ _ h => h) (pa_cons (pv 0) pa_nil)) (pa_cons pe_dnewK pa_nil))) pa_nil)))), ?_⟩
  walk_at "rd"
  refine ⟨_, rfl, N, v, d, rfl, hN, hd, hz, hdp, fun t ht v' H1 e1 h1 => ?_, k2⟩
  obtain ⟨q1, q2, q3⟩ := k1 t ht
  intro p hp
  have e2 := same_new hp (.dK [])
  have e3 := e1.trans e2
  have hp0 := none_of_none e1 hp
  have w1 : Same (hide N H1) (hide (plus N p) (upd H1 p (.dK []))) := plus_same hp e2
  refine ⟨plus N p, v', p, t, [], rfl, fun a h => ?_, .inl rfl, Dp.same w1 h1, upd_same, q1, show 0 + t.sz ≤ 10000 by omega, fun H' g1 g2 => ⟨p, _, rfl, g2, fun q hq => ?_⟩⟩
  · rcases h with rfl | h
    · rw [upd_same]; exact fun z => nomatch z
    · exact (hN.same e3) a h
  · rw [kvs_keys]
    have sA : Same H H' := fun a o h => g1 a o (fun z => by subst z; rw [hp0] at h; cases h) (e3 a o h)
    exact q3 _ q (sA.trans (same_new hq _)) (none_of_none sA hq) upd_same
end
end WD

-- text: W13
set_option Elab.async false
set_option linter.all false
set_option maxRecDepth 100000
set_option maxHeartbeats 400000
namespace WD
open PySem PySem.Spec PyProof.Rows L2 GB GL
open DB hiding isi1 isiT
local macro_rules | `(tactic| walk_at "rd") => `(tactic| (dsimp only [cxOf, Cx.nox, L2.start, tRet, tRetN, tCB, tCons, tNil, tC, tVar, tTup, tLst, tB, tTest, tAnd, tOr, tNot, tAndV, tOrV, tNotV, tIfS, tIf, tSeq, tNext, tDrop, tOp, tUn, tAsg, gName, gSub, tSl, tPart, tNoPart, tCall, tPar, tBM, tChain, tYes, StX.tStar, tFld, tNotN, tIsN, tDNotIn, tDIn, tDGet, tDGet2, tDNewK, gTup, gCons, gNil, tLockE, iKeys, XR.iZipTN, sFld, sDPut, iEnum, XR.iEnumK, XR.iEnumT, iList, RZ.iZipA, iTup, iRng1, iRng2, tMake, tPar3, tRevL, XR.tTwo3, List.length_cons, List.length_nil, List.set_cons_zero, List.set_cons_succ, List.nil_append, List.cons_append, List.append_nil]))
section
variable {P : Program} {w : World} {K : PySem.W.Frag} {mg : Str → Option Value} {base : Heap}
abbrev st_checked_part : Stmt := top 36
theorem sc_checked_part : FnScope ["word", "place", "found", "part"] ["word", "place"] (defScope st_checked_part) := ⟨rfl, rfl, rfl, by decide +kernel, rfl, by decide +kernel, by decide +kernel⟩
abbrev st_word_at : Stmt := top 37
theorem sc_word_at : FnScope ["word", "place"] ["word", "place"] (defScope st_word_at) := ⟨rfl, rfl, rfl, by decide +kernel, rfl, by decide +kernel, by decide +kernel⟩
abbrev st_word_put : Stmt := top 38
theorem sc_word_put : FnScope ["word", "place", "part", "found", "_", "new"] ["word", "place", "part"] (defScope st_word_put) := ⟨rfl, rfl, rfl, by decide +kernel, rfl, by decide +kernel, by decide +kernel⟩

/-- the part at a handed place -/
def plP : T → PyData → Option T
  | t, .list ds => atP t ds
  | t, .tuple ds => atP t ds
  | _, _ => none
theorem seq_of {K : PySem.W.Frag} {H : Hp} {v : V} {d : PyData} (h : DE K H v d) (q : (tn d == "list" || tn d == "tuple") = true) : ∃ pa xs ds, v = .ref pa ∧ (SqL K H pa xs ∨ SqT K H pa xs) ∧ DEs K H xs ds ∧ ∀ t, plP t d = atP t ds := by
  cases h with
  | lst hs a => exact ⟨_, _, _, rfl, .inl hs, a, fun t => by cases t <;> rfl⟩
  | tup hs a => exact ⟨_, _, _, rfl, .inr hs, a, fun t => by cases t <;> rfl⟩
  | _ => exact absurd q (by simp [tn])
theorem plP_no {d : PyData} {t : T} (q : (tn d == "list" || tn d == "tuple") = false) : plP t d = none := by
  cases d with
  | list ds => exact absurd q (by show ¬ ((("list" : String) == "list" || ("list" : String) == "tuple") = false); decide)
  | tuple ds => exact absurd q (by show ¬ ((("tuple" : String) == "list" || ("tuple" : String) == "tuple") = false); decide)
  | _ => cases t <;> rfl
def ChkN (K : PySem.W.Frag) (CW : Addr) (n : Nat) (N : Addr → Prop) (v : V) (H : Hp) (E : XK) (R : T → Prop) : Prop := ∃ d, Tr N H ∧ DE K (hide N H) v d ∧ okz d = true ∧ d.depth < n ∧
  (∀ t, chkW d = some t → t.ht < n ∧ t.sz ≤ 5000 ∧ R t) ∧ (chkW d = none → ∀ H1, Same H H1 → Left CW "thing" v H1 E)
def spCheckedPart (K : PySem.W.Frag) (CW CP : Addr) (n : Nat) : Sp := fun vs H Q E => ∃ N v yp dp, vs = [v, yp] ∧ DE K H yp dp ∧ ChkN K CW n N v H E fun t =>
  (∀ u, plP t dp = some u → ∀ H' p a b, Same H H' → H' p = some (.tup [a, b]) → Dp K (hide N H') a t.dat → Dp K (hide N H') b u.dat → Q (.ref p) H') ∧ (plP t dp = none → ∀ H1, Same H H1 → Left CP "thing" yp H1 E)
theorem ok_checked_part (D : Def K mg "checked_part" st_checked_part ["word", "place"]) {CW CP : Addr} {n j : Nat} (hj : 3 ≤ j) (c_checked_word : CalleeX P w K mg base j "checked_word" ["thing"] (spChecked K CW n)) (c_is_list : Callee P w K mg base 1 "is_list" ["thing"] (spIsList K)) (c_at_in : Callee P w K mg base 3 "at_in" ["word", "place"] (spAtIn K)) (c_BadPlace : ErrOk P w K mg base "BadPlace" "thing" CP) : CalleeX P w K mg base (j + 1) "checked_part" ["word", "place"] (spCheckedPart K CW CP n) := by
  obtain ⟨f, fd, F, b, m⟩ := D.ex
  refine ⟨f, fd, F.okX sc_checked_part (fun vs H Q E h => ?_) (fun cdv A outer s H vs Q E hr h => ?_), b, F.kp, m⟩
  · obtain ⟨N, v, yp, dp, rfl, _⟩ := h
    rfl
  obtain ⟨N, v, yp, dp, rfl, hpv, d, hN, hd, hz, hdp, k1, k2⟩ := h
  have hr_checked_word := hr
  have hr_is_list := hr.mono (show 1 ≤ j by omega)
  have hr_at_in := hr.mono hj
  have hr_BadPlace := hr.mono (show 2 ≤ j by omega)
  refine ⟨_, (pss_cons (ps_set (i := 2) sc_checked_part.nd rfl (Or.inl rfl) (pe_ownX (E := E) c_checked_word hr_checked_word rfl (takes_of rfl rfl rfl rfl) (fun _ _ _ _ h => h) (pa_cons (pv 0) pa_nil))) (pss_cons (ps_set (i := 3) sc_checked_part.nd rfl (Or.inl rfl) (pe_ifExp (pt_val (pe_own c_is_list hr_is_list rfl (pa_cons (pv 1) pa_nil))) (pe_own c_at_in hr_at_in rfl (pa_cons (pv 2) (pa_cons (pv 1) pa_nil))) pe_non)) (pss_cons (ps_if (pt_cmp (pc_isN (pv 3))) (pss_one (ps_raise rfl (takes_of rfl rfl rfl rfl) (pmk_err c_BadPlace hr_BadPlace rfl (pa_cons (pv 1) pa_nil)))) pss_nil) (pss_one (ps_ret (pe_tup (pa_cons (pv 2) (pa_cons (pv 3) pa_nil)))))))), ?_⟩
  refine q_seq (fun σ' H' => ∃ v' t, chkW d = some t ∧ σ' = [some v, some yp, some v', none] ∧ Same H H' ∧ Dp K (hide N H') v' t.dat) (fun Z z => ?_) (fun σ1 H1 hp1 => ?_)
  · walk_at "rd"
    exact ⟨_, rfl, N, v, d, rfl, hN, hd, hz, hdp, fun t ht v' H1 e1 h1 => z _ _ ⟨v', t, ht, rfl, e1, h1⟩, k2⟩
  obtain ⟨v', t, ht, rfl, e1, h1⟩ := hp1
  obtain ⟨q1, q2, q3, q4⟩ := k1 t ht
  refine q_seq (fun σ' H' => ∃ b, σ' = [some v, some yp, some v', some b] ∧ Same H1 H' ∧ Dp K (hide N H') b (datO (plP t dp))) (fun Z z => ?_) (fun σ2 H2 hp2 => ?_)
  · walk_at "rd"
    refine ⟨_, rfl, yp, dp, rfl, DE.same e1 hpv, fun H2 e2 => ?_⟩
    refine ⟨_, rfl, ?_⟩
    have s2 := e1.trans e2
    by_cases hq : (tn dp == "list" || tn dp == "tuple") = true
    · rw [hq]
      refine iteT ⟨_, rfl, _, rfl, ?_⟩
      obtain ⟨pa, xs, ds, rfl, hs, hxs, hpl⟩ := seq_of (DE.same s2 hpv) hq
      exact ⟨N, v', pa, t, xs, ds, rfl, hN.same s2, Dp.same (hide_mono e2) h1, hs, hxs, q2, fun b H3 e3 h3 => z _ _ ⟨b, rfl, e2.trans e3, by rw [hpl]; exact h3⟩⟩
    · rw [Bool.not_eq_true] at hq
      rw [hq]
      refine iteF (z _ _ ⟨.non, rfl, e2, ?_⟩)
      rw [plP_no hq]
      exact .non
  obtain ⟨bv, rfl, e2, h2⟩ := hp2
  walk_at "rd"
  refine ⟨_, rfl, _, rfl, ?_⟩
  cases hpl : plP t dp with
  | some u =>
    rw [hpl] at h2
    rw [dat_non (t := u) h2]
    refine iteF ?_
    refine ⟨_, rfl, _, rfl, by rw [sizeLine_eq]; decide, fun p hp => ?_⟩
    have e3 := same_new hp (.tup [v', bv])
    exact q3 u hpl _ p v' bv ((e1.trans e2).trans e3) upd_same (Dp.same (hide_mono (e2.trans e3)) h1) (Dp.same (hide_mono e3) h2)
  | none =>
    rw [hpl] at h2
    cases h2
    refine iteT ?_
    exact ⟨_, rfl, left_ok (q4 hpl H2 (e1.trans e2))⟩
end
end WD

-- text: W14
set_option Elab.async false
set_option linter.all false
set_option maxRecDepth 100000
set_option maxHeartbeats 400000
namespace WD
open PySem PySem.Spec PyProof.Rows L2 GB GL
open DB hiding isi1 isiT
local macro_rules | `(tactic| walk_at "rd") => `(tactic| (dsimp only [cxOf, Cx.nox, L2.start, tRet, tRetN, tCB, tCons, tNil, tC, tVar, tTup, tLst, tB, tTest, tAnd, tOr, tNot, tAndV, tOrV, tNotV, tIfS, tIf, tSeq, tNext, tDrop, tOp, tUn, tAsg, gName, gSub, tSl, tPart, tNoPart, tCall, tPar, tBM, tChain, tYes, StX.tStar, tFld, tNotN, tIsN, tDNotIn, tDIn, tDGet, tDGet2, tDNewK, gTup, gCons, gNil, tLockE, iKeys, XR.iZipTN, sFld, sDPut, iEnum, XR.iEnumK, XR.iEnumT, iList, RZ.iZipA, iTup, iRng1, iRng2, tMake, tPar3, tRevL, XR.tTwo3, List.length_cons, List.length_nil, List.set_cons_zero, List.set_cons_succ, List.nil_append, List.cons_append, List.append_nil]))
section
variable {P : Program} {w : World} {K : PySem.W.Frag} {mg : Str → Option Value} {base : Heap}

def spWordAt (K : PySem.W.Frag) (CW CP : Addr) (n : Nat) : Sp := fun vs H Q E => ∃ N v yp dp, vs = [v, yp] ∧ DE K H yp dp ∧ ChkN K CW n N v H E fun t =>
  (∀ u, plP t dp = some u → ∀ H' b, Same H H' → Dp K (hide N H') b u.dat → Q b H') ∧ (plP t dp = none → ∀ H1, Same H H1 → Left CP "thing" yp H1 E)
theorem ok_word_at (D : Def K mg "word_at" st_word_at ["word", "place"]) {CW CP : Addr} {n j : Nat} (c_checked_part : CalleeX P w K mg base j "checked_part" ["word", "place"] (spCheckedPart K CW CP n)) : CalleeX P w K mg base (j + 1) "word_at" ["word", "place"] (spWordAt K CW CP n) := by
  obtain ⟨f, fd, F, b, m⟩ := D.ex
  refine ⟨f, fd, F.okX sc_word_at (fun vs H Q E h => ?_) (fun cdv A outer s H vs Q E hr h => ?_), b, F.kp, m⟩
  · obtain ⟨N, v, yp, dp, rfl, _⟩ := h
    rfl
  obtain ⟨N, v, yp, dp, rfl, hpv, d, hN, hd, hz, hdp, k1, k2⟩ := h
  have hr_checked_part := hr
  refine ⟨_, (pss_one (ps_ret (pe_ix ix_tup (pe_ownX (E := E) c_checked_part hr_checked_part rfl (takes_of rfl rfl rfl rfl) (fun _ _ _ _ h => h) (pa_cons (pv 0) (pa_cons (pv 1) pa_nil))) pe_int (fun _ _ => rfl)))), ?_⟩
  walk_at "rd"
  refine ⟨_, rfl, _, rfl, N, v, yp, dp, rfl, hpv, d, hN, hd, hz, hdp, fun t ht => ?_, k2⟩
  obtain ⟨q1, q2, q3, q4⟩ := k1 t ht
  refine ⟨q1, q2, fun u hu H' p a b e h ha hb => ?_, q4⟩
  exact ⟨p, _, 1, b, rfl, rfl, .inl (.inl h), atI_nat (j := 1) rfl, q3 u hu H' b e hb⟩

/-- a place that is there holds whole numbers alone, and may be put to -/
theorem at_put : ∀ (ds : List PyData) (t u w : T), atP t ds = some u → ∃ ps r, ds = ps.map (fun (i : Nat) => PyData.int (i : Int)) ∧ putP t ps w = some r
  | [], t, u, w, _ => ⟨[], w, rfl, putP_nil t w⟩
  | d :: ds, .v _, u, w, h => by cases h
  | d :: ds, .n x ks, u, w, h => by
    cases hn : isNum d with
    | false => rw [atP_num hn] at h; cases h
    | true =>
      obtain ⟨m, rfl⟩ := num_nat hn
      rw [atP_int] at h
      cases hk : ks[m]? with
      | none => rw [hk] at h; cases h
      | some k =>
        rw [hk] at h
        obtain ⟨ps, r, e, hr⟩ := at_put ds k u w h
        refine ⟨m :: ps, .n x (ks.set m r), by rw [e]; rfl, ?_⟩
        rw [putP, hk]
        show (putP k ps w).map _ = _
        rw [hr]
        rfl
theorem DEs.nums {K : PySem.W.Frag} {H : Hp} : ∀ {xs : List V} {ps : List Nat}, DEs K H xs (ps.map fun (i : Nat) => PyData.int (i : Int)) → xs = nV ps
  | _, [], h => by cases h; rfl
  | _, p :: ps, h => by
    cases h with
    | cons a b =>
      cases a
      rw [DEs.nums b]
      rfl
end
end WD

-- text: W15
set_option Elab.async false
set_option linter.all false
set_option maxRecDepth 100000
set_option maxHeartbeats 400000
namespace WD
open PySem PySem.Spec PyProof.Rows L2 GB GL
open DB hiding isi1 isiT
local macro_rules | `(tactic| walk_at "rd") => `(tactic| (dsimp only [cxOf, Cx.nox, L2.start, tRet, tRetN, tCB, tCons, tNil, tC, tVar, tTup, tLst, tB, tTest, tAnd, tOr, tNot, tAndV, tOrV, tNotV, tIfS, tIf, tSeq, tNext, tDrop, tOp, tUn, tAsg, gName, gSub, tSl, tPart, tNoPart, tCall, tPar, tBM, tChain, tYes, StX.tStar, tFld, tNotN, tIsN, tDNotIn, tDIn, tDGet, tDGet2, tDNewK, gTup, gCons, gNil, tLockE, iKeys, XR.iZipTN, sFld, sDPut, iEnum, XR.iEnumK, XR.iEnumT, iList, RZ.iZipA, iTup, iRng1, iRng2, tMake, tPar3, tRevL, XR.tTwo3, List.length_cons, List.length_nil, List.set_cons_zero, List.set_cons_succ, List.nil_append, List.cons_append, List.append_nil]))
section
variable {P : Program} {w : World} {K : PySem.W.Frag} {mg : Str → Option Value} {base : Heap}

def spWordPut (K : PySem.W.Frag) (CW CP : Addr) (n : Nat) : Sp := fun vs H Q E => ∃ N v yp dp yq dq, vs = [v, yp, yq] ∧ DE K H yp dp ∧ DE K (hide N H) yq dq ∧ okz dq = true ∧ dq.depth < n ∧ ChkN K CW n N v H E fun t =>
  (∀ u, plP t dp = some u → (chkW dq = none → ∀ H1, Same H H1 → Left CW "thing" yq H1 E) ∧ (chkW dq ≠ none → ∃ w, asW dq = some w) ∧
    ∀ w ps r, asW dq = some w → (dp = .list (ps.map fun (i : Nat) => PyData.int (i : Int)) ∨ dp = .tuple (ps.map fun (i : Nat) => PyData.int (i : Int))) → putP t ps w = some r → ps.length < n ∧ ∀ H' b, Same H H' → Dp K (hide N H') b r.dat → Q b H') ∧ (plP t dp = none → ∀ H1, Same H H1 → Left CP "thing" yp H1 E)
theorem ok_word_put (G : Glob K mg) (D : Def K mg "word_put" st_word_put ["word", "place", "part"]) {CW CP : Addr} {n j i : Nat} (hn : n ≤ 5000) (hj : n + 1 ≤ j) (hi : i ≤ j) (h2 : 2 ≤ j) (c_checked_word : CalleeX P w K mg base j "checked_word" ["thing"] (spChecked K CW n)) (c_checked_part : CalleeX P w K mg base j "checked_part" ["word", "place"] (spCheckedPart K CW CP n))
    (c_as_word : Callee P w K mg base i "as_word" ["thing"] (spAsWord K n)) (c_with_part : Callee P w K mg base (n + 1) "with_part" ["word", "place", "part"] (spWithPart K n)) (c_BadWord : ErrOk P w K mg base "BadWord" "thing" CW) : CalleeX P w K mg base (j + 1) "word_put" ["word", "place", "part"] (spWordPut K CW CP n) := by
  obtain ⟨f, fd, F, b, m⟩ := D.ex
  have z_len := G.len
  have z_list := G.list
  refine ⟨f, fd, F.okX sc_word_put (fun vs H Q E h => ?_) (fun cdv A outer s H vs Q E hr h => ?_), b, F.kp, m⟩
  · obtain ⟨N, v, yp, dp, yq, dq, rfl, _⟩ := h
    rfl
  obtain ⟨N, v, yp, dp, yq, dq, rfl, hpv, hqv, zq, pq, d, hN, hd, hz, hdp, k1, k2⟩ := h
  have hr_checked_word := hr
  have hr_checked_part := hr
  have hr_as_word := hr.mono hi
  have hr_with_part := hr.mono hj
  have hr_BadWord := hr.mono h2
  refine ⟨_, (pss_cons (ps_asg (pe_ownX (E := E) c_checked_part hr_checked_part rfl (takes_of rfl rfl rfl rfl) (fun _ _ _ _ h => h) (pa_cons (pv 0) (pa_cons (pv 1) pa_nil))) (pg_tup rfl (pgs_cons (pg_name (i := 3) sc_word_put.nd rfl (Or.inl rfl)) (pgs_cons (pg_name (i := 4) sc_word_put.nd rfl (Or.inl rfl)) pgs_nil)))) (pss_cons (ps_set (i := 5) sc_word_put.nd rfl (Or.inl rfl) (pe_ownX (E := E) c_checked_word hr_checked_word rfl (takes_of rfl rfl rfl rfl) (fun _ _ _ _ h => h) (pa_cons (pv 2) pa_nil))) (pss_cons (ps_if (PW.pt (pw_and (pt_cmpR op_gt (pe_callB call_len_seq rfl z_len PySem.boot_len (pa_cons (pv 1) pa_nil)) pe_int (nomark _)) (pw_and1 (pt_cmp (pc_isN (pe_own c_as_word hr_as_word rfl (pa_cons (pv 2) pa_nil))))))) (pss_one (ps_raise rfl (takes_of rfl rfl rfl rfl) (pmk_err c_BadWord hr_BadWord rfl (pa_cons (pv 2) pa_nil)))) pss_nil) (pss_one (ps_ret (pe_own c_with_part hr_with_part rfl (pa_cons (pv 3) (pa_cons (pe_callTy call_list_of rfl z_list boot_list (pa_cons (pv 1) pa_nil)) (pa_cons (pv 5) pa_nil))))))))), ?_⟩
  refine q_seq (fun σ' H' => ∃ t u a b, plP t dp = some u ∧ chkW d = some t ∧ σ' = [some v, some yp, some yq, some a, some b, none] ∧ Same H H' ∧ Dp K (hide N H') a t.dat) (fun Z z => ?_) (fun σ1 H1 hp1 => ?_)
  · walk_at "rd"
    refine ⟨_, rfl, _, rfl, N, v, yp, dp, rfl, hpv, d, hN, hd, hz, hdp, fun t ht => ?_, k2⟩
    obtain ⟨q1, q2, q3, q4⟩ := k1 t ht
    refine ⟨q1, q2, fun u hu H' p a b e h ha hb => ?_, q4⟩
    exact g_pair h rfl (z _ _ ⟨t, u, a, b, hu, ht, rfl, e, ha⟩)
  obtain ⟨t, u, a, b1, hu, ht, rfl, e1, ha⟩ := hp1
  obtain ⟨q1, q2, q3, q4⟩ := k1 t ht
  obtain ⟨r1, r2, r3⟩ := q3 u hu
  refine q_seq (fun σ' H' => ∃ w c, asW dq = some w ∧ σ' = [some v, some yp, some yq, some a, some b1, some c] ∧ Same H1 H' ∧ Dp K (hide N H') c w.dat) (fun Z z => ?_) (fun σ2 H2 hp2 => ?_)
  · walk_at "rd"
    refine ⟨_, rfl, N, yq, dq, rfl, hN.same e1, DE.same (hide_mono e1) hqv, zq, pq, fun w hw c H2 e2 h2 => ?_, fun hw H2 e2 => r1 hw H2 (e1.trans e2)⟩
    obtain ⟨w2, hw2⟩ := r2 (by rw [hw]; exact fun z => nomatch z)
    have : w = w2 := by
      unfold chkW at hw
      rw [hw2] at hw
      exact (Option.some.inj hw).symm
    subst this
    exact z _ _ ⟨w, c, hw2, rfl, e2, h2⟩
  obtain ⟨w, c, hw, rfl, e2, hc⟩ := hp2
  have s2 := e1.trans e2
  obtain ⟨ps, r, hps, hr1⟩ : ∃ ps r, (dp = .list (ps.map fun (i : Nat) => PyData.int (i : Int)) ∨ dp = .tuple (ps.map fun (i : Nat) => PyData.int (i : Int))) ∧ putP t ps w = some r := by
    cases dp with
    | list ds =>
      have : plP t (.list ds) = atP t ds := by cases t <;> rfl
      obtain ⟨ps, r, rfl, h⟩ := at_put ds t u w (this ▸ hu)
      exact ⟨ps, r, .inl rfl, h⟩
    | tuple ds =>
      have : plP t (.tuple ds) = atP t ds := by cases t <;> rfl
      obtain ⟨ps, r, rfl, h⟩ := at_put ds t u w (this ▸ hu)
      exact ⟨ps, r, .inr rfl, h⟩
    | _ => cases t <;> cases hu
  obtain ⟨hl, rk⟩ := r3 w ps r hw hps hr1
  obtain ⟨pa, rfl, hpa⟩ : ∃ pa, yp = .ref pa ∧ (SqL K H pa (nV ps) ∨ SqT K H pa (nV ps)) := by
    rcases hps with rfl | rfl
    · cases hpv with
      | lst hs h => exact ⟨_, rfl, .inl (DEs.nums h ▸ hs)⟩
    · cases hpv with
      | tup hs h => exact ⟨_, rfl, .inr (DEs.nums h ▸ hs)⟩
  have hpS : ∀ H', Same H H' → (SqL K H' pa (nV ps) ∨ SqT K H' pa (nV ps)) := fun H' e => hpa.elim (fun h => .inl (Same.seq e h)) (fun h => .inr (Same.tupL e h))
  refine q_when false (fun Q1 q1' => ?_) (fun hb => nomatch hb) (fun _ H3 e3 => ?_)
  · walk_at "rd"
    refine ⟨_, rfl, pa, _, rfl, hpS H2 s2, _, _, rfl, rfl, _, rfl, ite_b (fun _ => ?_) (fun _ => q1' _ (Same.refl _))⟩
    refine ⟨_, rfl, N, yq, dq, rfl, hN.same s2, DE.same (hide_mono s2) hqv, zq, pq, fun v3 H3 e3 h3 => ⟨_, rfl, ?_⟩⟩
    rw [hw] at h3
    rw [dat_non (t := w) h3]
    exact q1' _ e3
  · walk_at "rd"
    have s3 := s2.trans e3
    refine ⟨_, rfl, _, rfl, pa, _, rfl, hpS H3 s3, fun l hnl => ?_⟩
    have e4 := same_new hnl (.lst (nV ps))
    exact ⟨_, rfl, N, a, l, c, t, w, ps, r, rfl, hN.same (s3.trans e4), Dp.same (hide_mono ((e2.trans e3).trans e4)) ha, .inl (.inl upd_same), Dp.same (hide_mono (e3.trans e4)) hc, hr1, hl, hn, q2, fun v' H' e5 h5 => rk H' v' ((s3.trans e4).trans e5) h5⟩
end
end WD

-- text: W16
set_option Elab.async false
set_option linter.all false
set_option maxRecDepth 100000
set_option maxHeartbeats 400000
namespace WD
open PySem PySem.Spec PyProof.Rows L2 GB GL
open DB hiding isi1 isiT
local macro_rules | `(tactic| walk_at "rd") => `(tactic| (dsimp only [cxOf, Cx.nox, L2.start, tRet, tRetN, tCB, tCons, tNil, tC, tVar, tTup, tLst, tB, tTest, tAnd, tOr, tNot, tAndV, tOrV, tNotV, tIfS, tIf, tSeq, tNext, tDrop, tOp, tUn, tAsg, gName, gSub, tSl, tPart, tNoPart, tCall, tPar, tBM, tChain, tYes, StX.tStar, tFld, tNotN, tIsN, tDNotIn, tDIn, tDGet, tDGet2, tDNewK, gTup, gCons, gNil, tLockE, iKeys, XR.iZipTN, sFld, sDPut, iEnum, XR.iEnumK, XR.iEnumT, iList, RZ.iZipA, iTup, iRng1, iRng2, tMake, tPar3, tRevL, XR.tTwo3, List.length_cons, List.length_nil, List.set_cons_zero, List.set_cons_succ, List.nil_append, List.cons_append, List.append_nil]))
section
variable {P : Program} {w : World} {K : PySem.W.Frag} {mg : Str → Option Value} {base : Heap}

abbrev st__law_depth : Stmt := top 54
theorem sc__law_depth : FnScope ["word", "part"] ["word"] (defScope st__law_depth) := ⟨rfl, rfl, rfl, by decide +kernel, rfl, by decide +kernel, by decide +kernel⟩

theorem ok__law_depth (G : Glob K mg) (D : Def K mg "_law_depth" st__law_depth ["word"]) : ∀ n, Callee P w K mg base (n + 1) "_law_depth" ["word"] (spDepthIn K n)
  | 0 => by
    obtain ⟨f, fd, F, b, m⟩ := D.ex
    refine ⟨f, fd, F.ok sc__law_depth (fun vs H Q E h => ?_) (fun cdv A outer s H vs Q E hr h => ?_), b, F.kp, m⟩
    · obtain ⟨N, v, t, rfl, _⟩ := h
      rfl
    · obtain ⟨N, v, t, rfl, _, _, h, _⟩ := h
      exact absurd h (Nat.not_lt_zero _)
  | n + 1 => by
    have c__law_depth := ok__law_depth G D n
    obtain ⟨f, fd, F, b, m⟩ := D.ex
    have z_len := G.len
    have z_isinstance := G.isinstance
    have z_str := G.str
    have z_max := G.max
    refine ⟨f, fd, F.ok sc__law_depth (fun vs H Q E h => ?_) (fun cdv A outer s H vs Q E hr h => ?_), b, F.kp, m⟩
    · obtain ⟨N, v, t, rfl, _⟩ := h
      rfl
    obtain ⟨N, v, t, rfl, hN, hd, hh, hz, k⟩ := h
    have hr__law_depth := hr
    refine ⟨_, (pss_cons (ps_if (PW.pt (pw_or (pt_val (pe_callB call_isi rfl z_isinstance boot_isinstance (pa_cons (pv 0) (pa_cons (pe_bltn (v := .ty "str") rfl z_str boot_str rfl) pa_nil)))) (pw_or1 (pt_cmpR op_eq (pe_callB call_len_seq rfl z_len PySem.boot_len (pa_cons (pv 0) pa_nil)) pe_int (nomark _))))) (pss_one (ps_ret pe_int)) pss_nil) (pss_one (ps_ret (pe_op op_add pe_int (pe_callB (cr_max rfl) rfl z_max (by decide +kernel) (pa_cons (pe_lc (own := [("part", 1)]) (g := (gName 1)) (tt := tYes) rfl sc__law_depth.nd (pi_tup (pe_slice sl_tupA (pv 0) (po_some pe_int) po_none)) (blkOk_by (N := ["word", "part"]) (sc := defScope st__law_depth) (by decide +kernel)) (fun _ _ _ _ _ => (pg_name (i := 1) sc__law_depth.nd rfl (Or.inl rfl))) (fun _ _ _ _ _ => pts_nil) (fun _ _ _ _ _ => (pe_own c__law_depth hr__law_depth rfl (pa_cons (pv 1) pa_nil)))) pa_nil)))))), ?_⟩
    have hd1 : DE K H v t.dat := DE.of (Dp.same hide_same hd)
    cases t with
    | v y =>
      walk_at "rd"
      exact ⟨_, rfl, isi1 hd1 (kb_str (.str y)) ⟨_, rfl, iteT (iteT (k _ (Same.refl _)))⟩⟩
    | n y ks =>
      obtain ⟨wa, ws, rfl, hws, hwk⟩ := word_n hd
      have hwl : ws.length = ks.length := by have := DpAll.length hwk; rw [List.length_map] at this; exact this
      walk_at "rd"
      refine ⟨_, rfl, isi1 hd1 (kb_str (.tuple _)) ⟨_, rfl, iteF ?_⟩⟩
      refine ⟨_, rfl, wa, _, rfl, .inr (Same.tupL hide_same hws), rfl, _, rfl, ?_⟩
      rw [dec_int]
      refine ite_b (fun e1 => ?_) (fun e1 => ?_)
      · have e2 : ks = [] := by
          have := eq_of_beq e1
          rw [List.length_cons, hwl] at this
          exact List.eq_nil_of_length_eq_zero (by omega)
        subst e2
        exact k _ (Same.refl _)
      · have e2 : ks ≠ [] := fun q => by
          subst q
          rw [List.length_cons, hwl] at e1
          cases e1
        have hz1 := hz
        rw [T.sz] at hz1
        have hsl := T.szs_len ks
        rw [T.ht] at hh
        refine rd_lc ?_
        walk_at "rd"
        refine ⟨_, rfl, 1, rfl, wa, _, rfl, Same.tupL hide_same hws, fun q => absurd q (cut1_ne _ _), fun _ p hp => ?_⟩
        rw [cut1]
        refine ⟨p, rfl, ⟨_, .inl (.inl upd_same)⟩, ?_⟩
        have sX := same_new hp (.tup ws)
        refine lcp (K := K) (N := N) (hN.same sX) (src_tup (.inl (.inl upd_same))) (by omega) (fun _ => true) (fun i => (fun k : T => PyData.int (k.dp : Nat)) (ks.getD i (.v ""))) (fun i y Hq N7 Q2 Q3 hq e7 r7 tr7 hs7 q2 q3 => ?_) (fun Dl Hq ys7 nD e7 hy7 da => ?_)
        · obtain ⟨d7, hd7, hy7⟩ := DpAll.get (DpAll.same ((hide_mono sX).trans hs7) hwk) r7
          rw [List.getElem?_map] at hd7
          obtain ⟨k7, hk7, rfl⟩ := Option.map_eq_some_iff.mp hd7
          have hm7 := List.mem_of_getElem? hk7
          have h1 := T.ht_mem hm7
          have h2 := T.sz_mem hm7
          walk_at "rd"
          refine ⟨rfl, iteT ?_⟩
          refine ⟨_, rfl, N7, y, k7, rfl, tr7, hy7, by omega, by omega, fun H' e' => q2 _ _ e' rfl ?_⟩
          rw [List.getD_eq_getElem?_getD, hk7]
          exact .int _
        · have ed := map_range ks (fun k : T => PyData.int (k.dp : Nat)) (.v "")
          rw [hwl, ed] at da
          have ey := DpAll.ints (ns := ks.map fun k => ((k.dp : Nat) : Int)) (by rw [List.map_map]; exact da)
          subst ey
          refine ⟨Dl, _, rfl, .inl (.inl hy7), ?_, fun m hm hm2 => ⟨_, _, rfl, rfl, ?_⟩⟩
          · rw [List.length_map]
            exact List.length_pos_iff.mpr e2
          · have := k _ (sX.trans e7)
            rw [T.dp, ← dps_max e2 hm hm2] at this
            exact this
end
end WD

-- text: W17
set_option Elab.async false
set_option linter.all false
set_option maxRecDepth 100000
set_option maxHeartbeats 400000
namespace WD
open PySem PySem.Spec PyProof.Rows L2 GB GL
open DB hiding isi1 isiT
local macro_rules | `(tactic| walk_at "rd") => `(tactic| (dsimp only [cxOf, Cx.nox, L2.start, tRet, tRetN, tCB, tCons, tNil, tC, tVar, tTup, tLst, tB, tTest, tAnd, tOr, tNot, tAndV, tOrV, tNotV, tIfS, tIf, tSeq, tNext, tDrop, tOp, tUn, tAsg, gName, gSub, tSl, tPart, tNoPart, tCall, tPar, tBM, tChain, tYes, StX.tStar, tFld, tNotN, tIsN, tDNotIn, tDIn, tDGet, tDGet2, tDNewK, gTup, gCons, gNil, tLockE, iKeys, XR.iZipTN, sFld, sDPut, iEnum, XR.iEnumK, XR.iEnumT, iList, RZ.iZipA, iTup, iRng1, iRng2, tMake, tPar3, tRevL, XR.tTwo3, List.length_cons, List.length_nil, List.set_cons_zero, List.set_cons_succ, List.nil_append, List.cons_append, List.append_nil]))
section
variable {P : Program} {w : World} {K : PySem.W.Frag} {mg : Str → Option Value} {base : Heap}

theorem catN {K : PySem.W.Frag} {N : Addr → Prop} {a b : Addr} {xs ys : List V} {H : Hp} {Q : VK} (t : Tr N H) (ha : SqT K (hide N H) a xs) (hb : SqT K H b ys) (h0 : xs ≠ []) (hl : xs.length + ys.length ≤ 100000) (q : ∀ p H', Same H H' → SqT K (hide N H') p (xs ++ ys) → Q (.ref p) H') : rCatA K (.ref a) (.ref b) H Q := by
  refine ⟨a, b, xs, ys, rfl, rfl, Same.tupL hide_same ha, hb, Nat.le_trans hl (by rw [sizeLine_eq]; decide), fun e => absurd e h0, fun _ e => q a H (Same.refl _) (by rw [e, List.append_nil]; exact ha), fun _ _ p hp => q p _ (same_new hp _) (.inl (.inl (hide_upd (t.off hp))))⟩
theorem slN {K : PySem.W.Frag} {N : Addr → Prop} {a : Addr} {xs : List V} {lo hi : Option Int} {H : Hp} {Q : VK} (t : Tr N H) (h : SqT K (hide N H) a xs) (q : ∀ p H', Same H H' → SqT K (hide N H') p (cutV xs lo hi) → Q (.ref p) H') : rSlA K (.ref a) lo hi H Q := by
  refine ⟨a, xs, rfl, Same.tupL hide_same h, fun e => q a H (Same.refl _) ?_, fun _ p hp => q p _ (same_new hp _) (.inl (.inl (hide_upd (t.off hp))))⟩
  unfold cutV
  rw [e.1, e.2, List.drop_zero, Nat.sub_zero, List.take_length]
  exact h
theorem nV_dp (K : PySem.W.Frag) (H : Hp) : ∀ ns : List Nat, DpAll K H (nV ns) (ns.map fun (i : Nat) => PyData.int (i : Int))
  | [] => .nil
  | n :: ns => .cons (.int _) (nV_dp K H ns)
theorem nV_shaped (ns : List Nat) : SeqAt.shaped (.list (ns.map fun (i : Nat) => PyData.int (i : Int))) = true := by
  have := ints_shaped (ns.map fun (i : Nat) => (i : Int))
  rw [List.map_map] at this
  exact this
abbrev st__law_exchanged : Stmt := top 55
theorem sc__law_exchanged : FnScope ["word", "place", "part", "at"] ["word", "place", "part"] (defScope st__law_exchanged) := ⟨rfl, rfl, rfl, by decide +kernel, rfl, by decide +kernel, by decide +kernel⟩

theorem ok__law_exchanged (G : Glob K mg) (D : Def K mg "_law_exchanged" st__law_exchanged ["word", "place", "part"]) : ∀ n, Callee P w K mg base (n + 1) "_law_exchanged" ["word", "place", "part"] (spWithPart K n)
  | 0 => by
    obtain ⟨f, fd, F, b, m⟩ := D.ex
    refine ⟨f, fd, F.ok sc__law_exchanged (fun vs H Q E h => ?_) (fun cdv A outer s H vs Q E hr h => ?_), b, F.kp, m⟩
    · obtain ⟨N, v, pa, q, t, u, ps, r, rfl, _⟩ := h
      rfl
    · obtain ⟨N, v, pa, q, t, u, ps, r, rfl, _, _, _, _, _, h, _⟩ := h
      exact absurd h (Nat.not_lt_zero _)
  | n + 1 => by
    have c__law_exchanged := ok__law_exchanged G D n
    obtain ⟨f, fd, F, b, m⟩ := D.ex
    have z_len := G.len
    refine ⟨f, fd, F.ok sc__law_exchanged (fun vs H Q E h => ?_) (fun cdv A outer s H vs Q E hr h => ?_), b, F.kp, m⟩
    · obtain ⟨N, v, pa, q, t, u, ps, r, rfl, _⟩ := h
      rfl
    obtain ⟨N, v, pa, q, t, u, ps, r, rfl, hN, hd, hp, hu, hr0, hl, hn, hz, k⟩ := h
    have hr__law_exchanged := hr
    have hu64 : (A.deeper (envOfC "_law_exchanged" (defScope st__law_exchanged) s.heap.objs.size f cdv)).units + 64 < cLine := by have := hr.un; omega
    refine ⟨_, (pss_cons (ps_if (pt_cmpR (op_eqD hu64) (pv 1) (pe_lst pa_nil) (nomark _)) (pss_one (ps_ret (pv 2))) pss_nil) (pss_cons (ps_set (i := 3) sc__law_exchanged.nd rfl (Or.inl rfl) (pe_op op_add (pe_ix ix_list (pv 1) pe_int (fun _ _ => rfl)) pe_int)) (pss_one (ps_ret (pe_op op_catA (pe_op op_catA (pe_slice sl_tupA (pv 0) po_none (po_some (pv 3))) (pe_tup (pa_cons (pe_own c__law_exchanged hr__law_exchanged rfl (pa_cons (pe_ix ix_tup (pv 0) (pv 3) (fun _ _ => rfl)) (pa_cons (pe_slice sl_list (pv 1) (po_some pe_int) po_none) (pa_cons (pv 2) pa_nil)))) pa_nil))) (pe_slice sl_tupA (pv 0) (po_some (pe_op op_add (pv 3) pe_int)) po_none)))))), ?_⟩
    cases ps with
    | nil =>
      rw [putP_nil] at hr0
      cases hr0
      walk_at "rd"
      refine ⟨_, rfl, Nat.zero_le _, fun p0 hp0 => ?_⟩
      have s0 := same_new hp0 (.lst [])
      refine ⟨_, .list [], .lst (Same.seq s0 hp) (nV_dp K _ []), .lst (.inl (.inl upd_same)) .nil, nV_shaped _, by decide, _, rfl, ?_⟩
      exact iteT ⟨_, rfl, k _ _ s0 (Dp.same (hide_mono s0) hu)⟩
    | cons i is =>
      cases t with
      | v y => cases hr0
      | n y ks =>
        obtain ⟨wa, ws, rfl, hws, hwk⟩ := word_n hd
        have hwl : ws.length = ks.length := by have := DpAll.length hwk; rw [List.length_map] at this; exact this
        rw [putP] at hr0
        cases hk : ks[i]? with
        | none => rw [hk] at hr0; cases hr0
        | some kk =>
          rw [hk] at hr0
          cases hpk : putP kk is u with
          | none => 
            simp only [hpk] at hr0
            cases hr0
          | some k' =>
            simp only [hpk] at hr0
            cases hr0
            walk_at "rd"
            have hq : i < ws.length := hwl ▸ (List.getElem?_eq_some_iff.mp hk).1
            refine ⟨_, rfl, Nat.zero_le _, fun p0 hp0 => ?_⟩
            have s0 := same_new hp0 (.lst [])
            refine ⟨_, .list [], .lst (Same.seq s0 hp) (nV_dp K _ (i :: is)), .lst (.inl (.inl upd_same)) .nil, nV_shaped _, by decide, _, rfl, ?_⟩
            have e0 : PyData.eqv (.list ((i :: is).map fun (i : Nat) => PyData.int (i : Int))) (.list []) = false := by simp [PyData.eqv, PyData.eqvAll]
            rw [e0]
            refine iteF ⟨_, rfl, pa, _, 0, _, rfl, rfl, Same.seq s0 hp, atI_nat (j := 0) rfl, _, _, rfl, rfl, _, rfl, _, rfl, _, rfl, slN (hN.same s0) (Same.tupL (hide_mono s0) hws) fun p1 H1 e1' h1 => ?_⟩
            have e1 := s0.trans e1'
            have hq : i < ws.length := hwl ▸ (List.getElem?_eq_some_iff.mp hk).1
            obtain ⟨vm, hvm⟩ : ∃ vm, ws[i]? = some vm := ⟨_, List.getElem?_eq_getElem hq⟩
            obtain ⟨dm, hdm, hvd⟩ := DpAll.get hwk hvm
            rw [List.getElem?_map, hk] at hdm
            cases Option.some.inj hdm
            have hsz := T.sz_mem (List.mem_of_getElem? hk)
            rw [T.sz] at hz
            rw [List.length_cons] at hl
            have hw2 := T.szs_len ks
            rw [cut_to hq] at h1
            refine ⟨_, rfl, _, rfl, wa, _, _, vm, rfl, rfl, Same.tupL (hide_same.trans e1) hws, atI_nat (xs := V.str y :: ws) (j := i + 1) hvm, _, rfl, _, rfl, pa, _, rfl, Same.seq e1 hp, fun p2 hp2 => ⟨_, rfl, ?_⟩⟩
            have e2 := e1.trans (same_new hp2 (.lst (cutV (nV (i :: is)) (some 1) none)))
            refine ⟨N, vm, p2, q, kk, u, is, k', rfl, hN.same e2, Dp.same (hide_mono e2) hvd, ?_, Dp.same (hide_mono e2) hu, hpk, by omega, by omega, by omega, fun v3 H3 e3 h3 => ?_⟩
            · have := cut1 (.int (i : Nat)) (nV is)
              have h1 : cutV (nV (i :: is)) (some 1) none = nV is := this
              rw [h1]
              exact .inl (.inl upd_same)
            have s3 := e2.trans e3
            refine ⟨by rw [sizeLine_eq]; decide, fun p4 hp4 => ?_⟩
            have e4 := same_new hp4 (.tup [v3])
            have s4 := s3.trans e4
            refine catN (hN.same s4) (Same.tupL (hide_mono ((same_new hp2 _).trans (e3.trans e4))) h1) (.inl (.inl upd_same)) (by simp) (by simp; omega) fun p5 H5 e5 h5 => ?_
            have s5 := s4.trans e5
            refine ⟨_, rfl, _, rfl, _, _, rfl, rfl, _, rfl, slN (hN.same s5) (Same.tupL (hide_mono s5) hws) fun p6 H6 e6 h6 => ?_⟩
            have s6 := s5.trans e6
            have h6' : cutV (V.str y :: ws) (some ((i : Int) + 1 + 1)) none = ws.drop (i + 1) := cut_from hq
            rw [h6'] at h6
            refine catN (hN.same s6) (Same.tupL (hide_mono e6) h5) (Same.tupL hide_same h6) (by simp) (by simp; omega) fun p7 H7 e7 h7 => k _ _ (s6.trans e7) ?_
            have s7 := s6.trans e7
            have hset : ks.set i k' = ks.take i ++ k' :: ks.drop (i + 1) := by rw [List.set_eq_take_append_cons_drop, if_pos (hwl ▸ hq)]
            rw [T.dat, T.dats_map, hset, List.map_append, List.map_cons]
            refine .tup h7 ?_
            rw [List.append_assoc]
            refine .cons (.str _) (DpAll.app ?_ (.cons (Dp.same (hide_mono (e4.trans (e5.trans (e6.trans e7)))) h3) ?_))
            · rw [List.map_take]
              exact DpAll.take' _ (DpAll.same (hide_mono s7) hwk)
            · rw [List.map_drop]
              exact DpAll.drop _ (DpAll.same (hide_mono s7) hwk)
end
end WD

-- text: WL
set_option Elab.async false
set_option linter.all false
set_option maxRecDepth 100000
set_option maxHeartbeats 400000
/-! the law's own words: plain Lean -/
namespace WD
open PySem PySem.Spec
mutual
/-- the places with the parts there -/
def partsT : T → List (List Nat × T)
  | .v x => [([], .v x)]
  | .n x ks => ([], .n x ks) :: partsTs 0 ks
def partsTs : Nat → List T → List (List Nat × T)
  | _, [] => []
  | i, k :: ks => (partsT k).map (fun p => (i :: p.1, p.2)) ++ partsTs (i + 1) ks
end
mutual
theorem parts_places : ∀ t : T, (partsT t).map (·.1) = plT t
  | .v x => rfl
  | .n x ks => by rw [partsT, List.map_cons, parts_placess 0 ks, plT]
theorem parts_placess : ∀ (i : Nat) (ks : List T), (partsTs i ks).map (·.1) = plTs i ks
  | _, [] => rfl
  | i, k :: ks => by
    rw [partsTs, List.map_append, parts_placess (i + 1) ks, List.map_map, plTs, ← parts_places k, List.map_map]
    rfl
end
theorem parts_len (t : T) : (partsT t).length = t.sz := by
  rw [← plT_len t, ← parts_places t, List.length_map]
theorem partsTs_app : ∀ (ks ls : List T) (i : Nat), partsTs i (ks ++ ls) = partsTs i ks ++ partsTs (i + ks.length) ls
  | [], ls, i => rfl
  | k :: ks, ls, i => by
    rw [List.cons_append, partsTs, partsTs, partsTs_app ks ls (i + 1), List.append_assoc, List.length_cons]
    congr 3
    omega
theorem partsTs_mem : ∀ (ks : List T) (i : Nat) (p : List Nat × T), p ∈ partsTs i ks → ∃ j k q, ks[j]? = some k ∧ q ∈ partsT k ∧ p = ((i + j) :: q.1, q.2)
  | [], _, _, h => by cases h
  | k :: ks, i, p, h => by
    rw [partsTs] at h
    rcases List.mem_append.mp h with h | h
    · obtain ⟨q, hq, rfl⟩ := List.mem_map.mp h
      exact ⟨0, k, q, rfl, hq, rfl⟩
    · obtain ⟨j, k', q, h1, h2, h3⟩ := partsTs_mem ks (i + 1) p h
      refine ⟨j + 1, k', q, h1, h2, ?_⟩
      rw [h3]
      congr 2
      omega
abbrev nD (ns : List Nat) : List PyData := ns.map fun (i : Nat) => PyData.int (i : Int)
theorem atP_app : ∀ (ds es : List PyData) (t : T), atP t (ds ++ es) = (atP t ds).bind fun u => atP u es
  | [], es, t => by rw [List.nil_append, atP_nil]; rfl
  | d :: ds, es, .v x => by rw [List.cons_append, atP, atP]; rfl
  | d :: ds, es, .n x ks => by
    rw [List.cons_append]
    cases hn : isNum d with
    | false => rw [atP_num hn, atP_num hn]; rfl
    | true =>
      obtain ⟨m, rfl⟩ := num_nat hn
      rw [atP_int, atP_int]
      cases hk : ks[m]? with
      | none => rfl
      | some k => exact atP_app ds es k
theorem parts_at (t : T) : ∀ p ∈ partsT t, atP t (nD p.1) = some p.2 := by
  have key : ∀ n (t : T), t.sz < n → ∀ p ∈ partsT t, atP t (nD p.1) = some p.2 := fun n => by
    induction n with
    | zero => exact fun t h => absurd h (Nat.not_lt_zero _)
    | succ n ih =>
      intro t h p hp
      cases t with
      | v x =>
        rw [partsT, List.mem_singleton] at hp
        subst hp
        rfl
      | n x ks =>
        rw [partsT] at hp
        rcases List.mem_cons.mp hp with rfl | hp
        · rfl
        · obtain ⟨j, k, q, h1, h2, rfl⟩ := partsTs_mem ks 0 p hp
          have hs := T.sz_mem (List.mem_of_getElem? h1)
          rw [T.sz] at h
          have := ih k (by omega) q h2
          rw [Nat.zero_add]
          show atP (.n x ks) (.int (j : Int) :: nD q.1) = _
          rw [atP_int, h1]
          exact this
  exact key (t.sz + 1) t (Nat.lt_succ_self _)
/-! ### names -/
def nmL : List Str := ["a", "b", "c", "f", "g", "h", "p", "q", "r", "s"]
def vrL : List Str := ["X", "Y", "Z12", "A"]
mutual
def wOk : T → Bool
  | .v x => decide (x ∈ vrL)
  | .n x ks => decide (x ∈ nmL) && decide (ks.length ≤ 3) && wOks ks
def wOks : List T → Bool
  | [] => true
  | k :: ks => wOk k && wOks ks
end
def aOk : T → Bool
  | .v x => decide (x ∈ vrL)
  | .n x ks => (decide (x ∈ nmL) || decide (x = sEq) && decide (ks.length = 2)) && decide (ks.length ≤ 3) && wOks ks
theorem aOk_of : ∀ {t : T}, wOk t = true → aOk t = true
  | .v x, h => h
  | .n x ks, h => by
    rw [wOk, Bool.and_eq_true, Bool.and_eq_true] at h
    rw [aOk, h.1.1, h.1.2, h.2]
    rfl
theorem wOks_mem : ∀ {ks : List T} {k : T}, wOks ks = true → k ∈ ks → wOk k = true
  | [], _, _, h => by cases h
  | a :: ks, k, h, hm => by
    rw [wOks, Bool.and_eq_true] at h
    rcases List.mem_cons.mp hm with rfl | hm
    · exact h.1
    · exact wOks_mem h.2 hm
theorem wOks_of : ∀ {ks : List T}, (∀ k ∈ ks, wOk k = true) → wOks ks = true
  | [], _ => rfl
  | a :: ks, h => by rw [wOks, h a (List.mem_cons_self ..), wOks_of fun k hk => h k (List.mem_cons_of_mem _ hk)]; rfl
theorem vr_ok : ∀ x ∈ vrL, varOk x = true ∧ x.length ≤ 3 ∧ PyData.strOk x = true := by decide +kernel
theorem nm_ok : ∀ x ∈ nmL, nameOk x = true ∧ x.length ≤ 1 ∧ PyData.strOk x = true := by decide +kernel
theorem eq_ok : nameOk sEq = false ∧ sEq.length ≤ 1 ∧ PyData.strOk sEq = true := by decide +kernel
/-- parts of such -/
theorem parts_ok (t : T) (h : aOk t = true) : ∀ p ∈ partsT t, (p.1 = [] ∧ p.2 = t) ∨ wOk p.2 = true := by
  have key : ∀ n (t : T), t.sz < n → wOk t = true → ∀ p ∈ partsT t, wOk p.2 = true := fun n => by
    induction n with
    | zero => exact fun t h => absurd h (Nat.not_lt_zero _)
    | succ n ih =>
      intro t h ho p hp
      cases t with
      | v x =>
        rw [partsT, List.mem_singleton] at hp
        subst hp
        exact ho
      | n x ks =>
        rw [partsT] at hp
        rcases List.mem_cons.mp hp with rfl | hp
        · exact ho
        · obtain ⟨j, k, q, h1, h2, rfl⟩ := partsTs_mem ks 0 p hp
          have hs := T.sz_mem (List.mem_of_getElem? h1)
          rw [T.sz] at h
          rw [wOk, Bool.and_eq_true] at ho
          exact ih k (by omega) (wOks_mem ho.2 (List.mem_of_getElem? h1)) q h2
  intro p hp
  cases t with
  | v x =>
    rw [partsT, List.mem_singleton] at hp
    subst hp
    exact .inl ⟨rfl, rfl⟩
  | n x ks =>
    rw [partsT] at hp
    rcases List.mem_cons.mp hp with rfl | hp
    · exact .inl ⟨rfl, rfl⟩
    · obtain ⟨j, k, q, h1, h2, rfl⟩ := partsTs_mem ks 0 p hp
      rw [aOk, Bool.and_eq_true] at h
      exact .inr (key (k.sz + 1) k (Nat.lt_succ_self _) (wOks_mem h.2 (List.mem_of_getElem? h1)) q h2)
theorem many3 {x : Str} {ks : List T} (h : aOk (.n x ks) = true) : ks.length ≤ 3 := by
  rw [aOk, Bool.and_eq_true, Bool.and_eq_true] at h
  exact of_decide_eq_true h.1.2
theorem part_ok {t : T} (h : aOk t = true) {p : List Nat × T} (hp : p ∈ partsT t) : aOk p.2 = true := by
  rcases parts_ok t h p hp with ⟨_, e⟩ | e
  · rw [e]; exact h
  · exact aOk_of e
/-! ### bad places -/
theorem bad_far {t : T} (h : aOk t = true) (i : Nat) (hi : 3 ≤ i) (ds : List PyData) : atP t (.int (i : Int) :: ds) = none := by
  cases t with
  | v x => rfl
  | n x ks =>
    have := many3 h
    rw [atP_int, List.getElem?_eq_none (by omega)]
theorem bad_seven {t : T} (h : aOk t = true) {p : List Nat × T} (hp : p ∈ partsT t) : atP t (nD (p.1 ++ [7])) = none := by
  rw [nD, List.map_append, atP_app, parts_at t p hp]
  exact bad_far (part_ok h hp) 7 (by decide) []
/-- a part without parts -/
def leaf : T → Bool
  | .v _ => true
  | .n _ ks => ks.isEmpty
theorem bad_leaf {t : T} {p : List Nat × T} (hp : p ∈ partsT t) (hl : leaf p.2 = true) : atP t (nD (p.1 ++ [0])) = none := by
  rw [nD, List.map_append, atP_app, parts_at t p hp]
  cases h : p.2 with
  | v x => rfl
  | n x ks =>
    rw [h] at hl
    have e : ks = [] := by simpa [leaf] using hl
    subst e
    rfl
theorem bad_num {t : T} {d : PyData} {ds : List PyData} (h : isNum d = false) : atP t (d :: ds) = none := by
  cases t with
  | v x => rfl
  | n x ks => exact atP_num h
/-! ### handed loosely -/
mutual
inductive Lo : T → PyData → Prop
  | v (x : Str) : Lo (.v x) (.str x)
  | l {x : Str} {ks : List T} {ds : List PyData} : Los ks ds → Lo (.n x ks) (.list (.str x :: ds))
  | t {x : Str} {ks : List T} {ds : List PyData} : Los ks ds → Lo (.n x ks) (.tuple (.str x :: ds))
inductive Los : List T → List PyData → Prop
  | nil : Los [] []
  | cons {k : T} {ks : List T} {d : PyData} {ds : List PyData} : Lo k d → Los ks ds → Los (k :: ks) (d :: ds)
end
mutual
theorem lo_dat : ∀ t : T, Lo t t.dat
  | .v x => .v x
  | .n x ks => .t (los_dats ks)
theorem los_dats : ∀ ks : List T, Los ks (T.dats ks)
  | [] => .nil
  | k :: ks => .cons (lo_dat k) (los_dats ks)
end
theorem Los.len : ∀ {ks : List T} {ds : List PyData}, Los ks ds → ds.length = ks.length
  | _, _, .nil => rfl
  | _, _, .cons _ h => by rw [List.length_cons, List.length_cons, Los.len h]
mutual
theorem lo_asW : ∀ {t : T} {d : PyData}, Lo t d → wOk t = true → asW d = some t
  | _, _, .v x, h => by
    rw [wOk] at h
    rw [asW, if_pos (vr_ok x (of_decide_eq_true h)).1]
  | _, _, .l (x := x) a, h => by
    rw [wOk, Bool.and_eq_true, Bool.and_eq_true] at h
    rw [asW, if_pos (show isNm (.str x) = true from (nm_ok x (of_decide_eq_true h.1.1)).1), los_asWs a h.2]
    rfl
  | _, _, .t (x := x) a, h => by
    rw [wOk, Bool.and_eq_true, Bool.and_eq_true] at h
    rw [asW, if_pos (show isNm (.str x) = true from (nm_ok x (of_decide_eq_true h.1.1)).1), los_asWs a h.2]
    rfl
theorem los_asWs : ∀ {ks : List T} {ds : List PyData}, Los ks ds → wOks ks = true → asWs ds = some ks
  | _, _, .nil, _ => rfl
  | _, _, .cons a b, h => by
    rw [wOks, Bool.and_eq_true] at h
    rw [asWs, lo_asW a h.1, los_asWs b h.2]
end
theorem lo_chk {t : T} {d : PyData} (l : Lo t d) (h : aOk t = true) : chkW d = some t := by
  cases l with
  | v x => 
    unfold chkW
    rw [lo_asW (.v x) h]
  | @l x ks ds a =>
    rw [aOk, Bool.and_eq_true, Bool.and_eq_true] at h
    cases hx : decide (x ∈ nmL) with
    | true =>
      unfold chkW
      rw [lo_asW (.l a) (by rw [wOk, hx, h.1.2, h.2]; rfl)]
    | false =>
      rw [hx, Bool.false_or, Bool.and_eq_true] at h
      have e := of_decide_eq_true h.1.1.1
      subst e
      have e1 : asW (.list (.str sEq :: ds)) = none := by rw [asW, if_neg (by show ¬ nameOk sEq = true; rw [eq_ok.1]; decide)]
      unfold chkW
      rw [e1]
      have hl := a.len
      have h2 := of_decide_eq_true h.1.1.2
      match ds, hl with
      | [d1, d2], _ =>
        show asA _ = _
        unfold asA
        rw [if_pos (show eqOf (.list [.str sEq, d1, d2]) = true from by simp [eqOf, isEq])]
        show (asWs [d1, d2]).map _ = _
        rw [los_asWs a h.2]
        rfl
      | [], hl => rw [h2] at hl; cases hl
      | [_], hl => rw [h2] at hl; cases hl
      | _ :: _ :: _ :: _, hl => rw [h2] at hl; simp at hl
  | @t x ks ds a =>
    rw [aOk, Bool.and_eq_true, Bool.and_eq_true] at h
    cases hx : decide (x ∈ nmL) with
    | true =>
      unfold chkW
      rw [lo_asW (.t a) (by rw [wOk, hx, h.1.2, h.2]; rfl)]
    | false =>
      rw [hx, Bool.false_or, Bool.and_eq_true] at h
      have e := of_decide_eq_true h.1.1.1
      subst e
      have e1 : asW (.tuple (.str sEq :: ds)) = none := by rw [asW, if_neg (by show ¬ nameOk sEq = true; rw [eq_ok.1]; decide)]
      unfold chkW
      rw [e1]
      have hl := a.len
      have h2 := of_decide_eq_true h.1.1.2
      match ds, hl with
      | [d1, d2], _ =>
        show asA _ = _
        unfold asA
        rw [if_pos (show eqOf (.tuple [.str sEq, d1, d2]) = true from by simp [eqOf, isEq])]
        show (asWs [d1, d2]).map _ = _
        rw [los_asWs a h.2]
        rfl
      | [], hl => rw [h2] at hl; cases hl
      | [_], hl => rw [h2] at hl; cases hl
      | _ :: _ :: _ :: _, hl => rw [h2] at hl; simp at hl
/-- what is asked of the data -/
structure Sml (t : T) (d : PyData) : Prop where
  okz : okz d = true
  depth : d.depth ≤ t.ht
  lay : d.canLay0 = true
  shw : d.showable = true
  wt : d.weight + 1 ≤ 5 * t.sz
  shi : d.intsShort 13 = true
structure Smls (ks : List T) (ds : List PyData) : Prop where
  okz : okzs ds = true
  depth : PyData.depthAll ds ≤ T.hts ks
  lay : PyData.canLayAll0 ds = true
  shw : PyData.showableAll ds = true
  wt : PyData.weightAll ds ≤ 5 * T.szs ks
  shi : PyData.intsShortAll 13 ds = true
theorem sml_node {x : Str} {ks : List T} {ds : List PyData} (h : Smls ks ds) (hx : x.length ≤ 1) (hs : PyData.strOk x = true) (hl : ds.length ≤ 3) : Sml (.n x ks) (.list (.str x :: ds)) ∧ Sml (.n x ks) (.tuple (.str x :: ds)) := by
  have hw : x.cps.size ≤ 1 := hx
  have h1 := h.depth
  have h2 := h.wt
  have e1 : okz (.str x) = true := by rw [WD.okz, hs, decide_eq_true (show x.length ≤ 1000 by omega)]; rfl
  refine ⟨⟨?_, ?_, ?_, ?_, ?_, ?_⟩, ⟨?_, ?_, ?_, ?_, ?_, ?_⟩⟩
  · rw [WD.okz, WD.okzs, e1, h.okz, decide_eq_true (show (PyData.str x :: ds).length ≤ 1000 by rw [List.length_cons]; omega)]; rfl
  · simp only [PyData.depth, PyData.depthAll, T.ht]; omega
  · simp [PyData.canLay0, PyData.canLayAll0, h.lay, hs]
  · simp [PyData.showable, PyData.showableAll, h.shw]
  · simp only [PyData.weight, PyData.weightAll, T.sz]; omega
  · simp [PyData.intsShort, PyData.intsShortAll, h.shi]
  · rw [WD.okz, WD.okzs, e1, h.okz, decide_eq_true (show (PyData.str x :: ds).length ≤ 1000 by rw [List.length_cons]; omega)]; rfl
  · simp only [PyData.depth, PyData.depthAll, T.ht]; omega
  · simp [PyData.canLay0, PyData.canLayAll0, h.lay, hs]
  · simp [PyData.showable, PyData.showableAll, h.shw]
  · simp only [PyData.weight, PyData.weightAll, T.sz]; omega
  · simp [PyData.intsShort, PyData.intsShortAll, h.shi]
theorem sml_var {x : Str} (h : x ∈ vrL) : Sml (.v x) (.str x) := by
  obtain ⟨_, h1, h2⟩ := vr_ok x h
  have hw : x.cps.size ≤ 3 := h1
  refine ⟨?_, ?_, ?_, ?_, ?_, ?_⟩
  · rw [WD.okz, h2, decide_eq_true (show x.length ≤ 1000 by omega)]; rfl
  · simp [PyData.depth]
  · simp [PyData.canLay0, h2]
  · simp [PyData.showable]
  · simp only [PyData.weight, T.sz]; omega
  · simp [PyData.intsShort]
mutual
theorem lo_sml : ∀ {t : T} {d : PyData}, Lo t d → wOk t = true → Sml t d
  | _, _, .v x, h => sml_var (of_decide_eq_true h)
  | _, _, .l (x := x) a, h => by
    rw [wOk, Bool.and_eq_true, Bool.and_eq_true] at h
    obtain ⟨_, h1, h2⟩ := nm_ok x (of_decide_eq_true h.1.1)
    exact (sml_node (los_smls a h.2) h1 h2 (by rw [a.len]; exact of_decide_eq_true h.1.2)).1
  | _, _, .t (x := x) a, h => by
    rw [wOk, Bool.and_eq_true, Bool.and_eq_true] at h
    obtain ⟨_, h1, h2⟩ := nm_ok x (of_decide_eq_true h.1.1)
    exact (sml_node (los_smls a h.2) h1 h2 (by rw [a.len]; exact of_decide_eq_true h.1.2)).2
theorem los_smls : ∀ {ks : List T} {ds : List PyData}, Los ks ds → wOks ks = true → Smls ks ds
  | _, _, .nil, _ => ⟨rfl, Nat.le_refl _, rfl, rfl, Nat.le_refl _, rfl⟩
  | _, _, .cons a b, h => by
    rw [wOks, Bool.and_eq_true] at h
    have p := lo_sml a h.1
    have q := los_smls b h.2
    have h1 := p.depth
    have h2 := q.depth
    have h3 := p.wt
    have h4 := q.wt
    refine ⟨?_, ?_, ?_, ?_, ?_, ?_⟩
    · rw [WD.okzs, p.okz, q.okz]; rfl
    · simp only [PyData.depthAll, T.hts]; omega
    · simp [PyData.canLayAll0, p.lay, q.lay]
    · simp [PyData.showableAll, p.shw, q.shw]
    · simp only [PyData.weightAll, T.szs]; omega
    · simp [PyData.intsShortAll, p.shi, q.shi]
end
theorem lo_smlA {t : T} {d : PyData} (l : Lo t d) (h : aOk t = true) : Sml t d := by
  have hn : ∀ {x : Str} {ks : List T}, aOk (.n x ks) = true → x.length ≤ 1 ∧ PyData.strOk x = true ∧ ks.length ≤ 3 ∧ wOks ks = true := fun {x ks} h => by
    rw [aOk, Bool.and_eq_true, Bool.and_eq_true, Bool.or_eq_true, Bool.and_eq_true] at h
    rcases h.1.1 with q | q
    · obtain ⟨_, h1, h2⟩ := nm_ok x (of_decide_eq_true q)
      exact ⟨h1, h2, of_decide_eq_true h.1.2, h.2⟩
    · have e := of_decide_eq_true q.1
      subst e
      exact ⟨eq_ok.2.1, eq_ok.2.2, of_decide_eq_true h.1.2, h.2⟩
  cases l with
  | v x => exact sml_var (of_decide_eq_true h)
  | l a =>
    obtain ⟨h1, h2, h3, h4⟩ := hn h
    exact (sml_node (los_smls a h4) h1 h2 (by rw [a.len]; exact h3)).1
  | t a =>
    obtain ⟨h1, h2, h3, h4⟩ := hn h
    exact (sml_node (los_smls a h4) h1 h2 (by rw [a.len]; exact h3)).2
theorem Sml.shown {t : T} {d : PyData} (h : Sml t d) (hz : t.sz ≤ 5000) (hh : t.ht ≤ 60) : d.shown.length ≤ sizeLine ∧ d.hasDict = false ∧ d.depth ≤ 64 := by
  have h1 := h.depth
  have h2 := h.wt
  refine ⟨PyData.shown_fits_of_layable0 (B := 13) (by decide) (by decide) ?_ h.shi, PyData.hasDict_of_canLay _ h.lay, by omega⟩
  unfold PyData.layable0
  rw [h.lay, decide_eq_true (show d.depth ≤ 64 by omega), decide_eq_true (show d.weight ≤ 2 ^ 20 by omega)]
  rfl
/-! ### variables -/
def varsT (ps : List (List Nat × T)) : List Str := ps.filterMap fun p => match p.2 with
  | .v x => some x
  | .n _ _ => none
def onceS (xs : List Str) : List Str := xs.foldl insS []
mutual
theorem met_parts : ∀ (t : T) (acc : List Str), metP t acc = (varsT (partsT t)).foldl insS acc
  | .v x, acc => rfl
  | .n x ks, acc => by
    rw [metP, mets_parts ks 0 acc, partsT]
    rfl
theorem mets_parts : ∀ (ks : List T) (i : Nat) (acc : List Str), metPs ks acc = (varsT (partsTs i ks)).foldl insS acc
  | [], i, acc => rfl
  | k :: ks, i, acc => by
    rw [metPs, met_parts k acc, mets_parts ks (i + 1), partsTs]
    unfold varsT
    rw [List.filterMap_append, List.foldl_append, List.filterMap_map]
    rfl
end
theorem met_once (t : T) : metP t [] = onceS (varsT (partsT t)) := met_parts t []
end WD

-- text: W18
set_option Elab.async false
set_option linter.all false
set_option maxRecDepth 100000
set_option maxHeartbeats 4000000
namespace WD
open PySem PySem.Spec PyProof.Rows L2 GB GL
open DB hiding isi1 isiT
local macro_rules | `(tactic| walk_at "rd") => `(tactic| (dsimp only [cxOf, Cx.nox, L2.start, tRet, tRetN, tCB, tCons, tNil, tC, tVar, tTup, tLst, tB, tTest, tAnd, tOr, tNot, tAndV, tOrV, tNotV, tIfS, tIf, tSeq, tNext, tDrop, tOp, tUn, tAsg, gName, gSub, tSl, tPart, tNoPart, tCall, tPar, tBM, tChain, tYes, StX.tStar, tFld, tNotN, tIsN, tDNotIn, tDIn, tDGet, tDGet2, tDNewK, gTup, gCons, gNil, tLockE, iKeys, XR.iZipTN, sFld, sDPut, iEnum, XR.iEnumK, XR.iEnumT, iList, RZ.iZipA, iTup, iRng1, iRng2, tMake, tPar3, tRevL, XR.tTwo3, List.length_cons, List.length_nil, List.set_cons_zero, List.set_cons_succ, List.nil_append, List.cons_append, List.append_nil]))
section
variable {P : Program} {w : World} {K : PySem.W.Frag} {mg : Str → Option Value} {base : Heap}
abbrev st__law_draw : Stmt := top 50
theorem sc__law_draw : FnScope ["stream", "many", "cell", "digit", "mixed"] ["stream", "many"] (defScope st__law_draw) := ⟨rfl, rfl, rfl, by decide +kernel, rfl, by decide +kernel, by decide +kernel⟩

def spDraw : Sp := fun vs H Q _ => ∃ (s c : Addr) (m : Int) (n : Nat), vs = [.ref s, .int m] ∧ Stm s c H n ∧ n < 1000000 ∧ 0 < m ∧ m < 1073741824 ∧ ∀ (r : Int) H', 0 ≤ r → r < m → Kept (two s c) H H' → Stm s c H' (n + 1) → Q (.int r) H'
theorem ok_draw (G : Glob K mg) (D : Def K mg "_law_draw" st__law_draw ["stream", "many"]) : Callee P w K mg base 1 "_law_draw" ["stream", "many"] spDraw := by
  obtain ⟨f, fd, F, b, m⟩ := D.ex
  have z_int := G.int
  refine ⟨f, fd, F.ok sc__law_draw (fun vs H Q E h => ?_) (fun cdv A outer s_ H vs Q E hr h => ?_), b, F.kp, m⟩
  · obtain ⟨s, c, m, n, rfl, _⟩ := h
    rfl
  · obtain ⟨s, c, m, n, rfl, hst, hn, hm0, hm1, k⟩ := h
    have hu := hu_of hr
    have hu64 : (A.deeper (envOfC "_law_draw" (defScope st__law_draw) s_.heap.objs.size f cdv)).units + 64 < cLine := by have := hr.un; omega
    refine ⟨_, (pss_cons (ps_asg (pe_op op_add (pe_ix ix_list (pv 0) pe_int (fun _ _ => rfl)) pe_int) (pg_sub (pv 0) pe_int set_list)) (pss_cons (ps_while PassesOwn.never (PW.pt (pw_and (pt_cmpR op_eq (pe_ix ix_list (pv 0) pe_int (fun _ _ => rfl)) pe_int (nomark _)) (pw_and1 (pt_cmpR (op_neD hu64) (pe_ix ix_list (pv 0) pe_int (fun _ _ => rfl)) (pe_lst pa_nil) (nomark _))))) (pss_cons (ps_set (i := 2) sc__law_draw.nd rfl (Or.inl rfl) (pe_bm PySem.F.plainAttrs_list PySem.F.slot_list_pop PySem.F.type_list_pop mt_popAt (pe_ix ix_list (pv 0) pe_int (fun _ _ => rfl)) (pa_cons pe_int pa_nil))) (pss_cons (ps_asg (pe_op op_mod (pe_callTy call_int1 rfl z_int boot_int (pa_cons (pe_op op_add (pe_op op_add (pe_op op_mul (pe_ix ix_list (pv 0) pe_int (fun _ _ => rfl)) pe_int) (pv 2)) pe_int) pa_nil)) pe_int) (pg_sub (pv 0) pe_int set_list)) (pss_one (ps_asg (pe_ifExp (pt_cmpR op_ge (pv 2) (pe_op op_pow pe_int pe_int) (nomark _)) (pv 2) pe_int) (pg_sub (pv 0) pe_int set_list)))))) (pss_cons (ps_if (pt_cmpR op_gt (pe_ix ix_list (pv 0) pe_int (fun _ _ => rfl)) pe_int (nomark _)) (pss_cons (ps_set (i := 3) sc__law_draw.nd rfl (Or.inl rfl) (pe_op op_mod (pe_callTy call_int1 rfl z_int boot_int (pa_cons (pe_ix ix_list (pv 0) pe_int (fun _ _ => rfl)) pa_nil)) (pv 1))) (pss_cons (ps_asg (pe_op op_fdiv (pe_ix ix_list (pv 0) pe_int (fun _ _ => rfl)) (pv 1)) (pg_sub (pv 0) pe_int set_list)) (pss_one (ps_ret (pv 3))))) pss_nil) (pss_cons (ps_set (i := 4) sc__law_draw.nd rfl (Or.inl rfl) (pe_op op_mod (pe_callTy call_int1 rfl z_int boot_int (pa_cons (pe_op op_pow (pe_op op_add (pe_op op_add (pe_ix ix_list (pv 0) pe_int (fun _ _ => rfl)) (pe_op op_mul pe_int (pe_ix ix_list (pv 0) pe_int (fun _ _ => rfl)))) pe_int) pe_int) pa_nil)) pe_int)) (pss_one (ps_ret (pe_op op_mod (pe_op op_mod (pe_callTy call_int1 rfl z_int boot_int (pa_cons (pe_op op_pow (pe_op op_add (pe_op op_add (pe_op op_mul (pv 4) pe_int) (pe_op op_mul pe_int (pe_ix ix_list (pv 0) pe_int (fun _ _ => rfl)))) pe_int) pe_int) pa_nil)) pe_int) (pv 1)))))))), ?_⟩
    obtain ⟨cells, cur, mix, cnt, hs, hcn⟩ := hst
    have hne := hs.ne
    refine q_seq (fun σ' H' => σ' = [some (.ref s), some (.int m), none, none, none] ∧ Kept (two s c) H H' ∧ StrAt s c H' cells cur mix (cnt + 1)) (fun Z z => ?_) (fun σ2 H2 hp2 => ?_)
    · walk_at "rd"
      exact ⟨_, rfl, s, _, 2, _, rfl, rfl, .inl (.inl hs.hs), atI_nat (j := 2) rfl, _, _, rfl, rfl, _, rfl, s, _, 2, 2, rfl, rfl, hs.hs, rfl, z _ _ ⟨rfl, (Kept.refl _).upd (.inl rfl), ⟨upd_same, by rw [upd_ne hne]; exact hs.hc, hs.h0, hs.m0, hs.m1⟩⟩⟩
    obtain ⟨rfl, k2, hs2⟩ := hp2
    refine q_seq (fun σ' H' => ∃ u cells' cur' mix', σ' = [some (.ref s), some (.int m), u, none, none] ∧ Kept (two s c) H H' ∧ StrAt s c H' cells' cur' mix' (cnt + 1)) (fun Z z => ?_) (fun σ3 H3 hp3 => ?_)
    · refine whq (α := List Int × Int × Int) (fun a σ' H' => ∃ u, σ' = [some (.ref s), some (.int m), u, none, none] ∧ Kept (two s c) H H' ∧ StrAt s c H' a.1 a.2.1 a.2.2 (cnt + 1)) (fun a => a.1.length) (fun a => decide (a.2.1 = 0) && !a.1.isEmpty) (cells, cur, mix) ⟨_, rfl, k2, hs2⟩ (fun a σ' H' q => ?_) (fun a σ' H' H1 q hb e => ?_) (fun a σ' H' H1 q hb e => ?_)
      · obtain ⟨cells', cur', mix'⟩ := a
        obtain ⟨u, rfl, q1, q2⟩ := q
        intro Q1 q3
        walk_at "rd"
        refine ⟨_, rfl, s, _, 1, _, rfl, rfl, .inl (.inl q2.hs), atI_nat (j := 1) rfl, rfl, _, rfl, ?_⟩
        have ec : decide (V.int cur' = V.int 0) = decide (cur' = 0) := by
          by_cases q : cur' = 0
          · simp [q]
          · simp [q]
        dsimp only at q3 ⊢
        rw [ec]
        refine ite_b (fun hb => ?_) (fun hb => ?_)
        · refine ⟨_, rfl, s, _, 0, _, rfl, rfl, .inl (.inl q2.hs), atI_nat (j := 0) rfl, by decide, fun p hp => ?_⟩
          have e1 := same_new hp (.lst [])
          refine ⟨_, _, .lst (.inl (.inl (e1 _ _ q2.hc))) (DpAll.of_ints K _ cells'), .lst (.inl (.inl upd_same)) .nil, ints_shaped cells', ints_shaped [], _, rfl, ?_⟩
          have := q3 _ e1
          rw [hb, Bool.true_and] at this
          cases cells' with
          | nil => simpa [PyData.eqv, PyData.eqvAll] using this
          | cons x r => simpa [PyData.eqv, PyData.eqvAll] using this
        · have := q3 _ (Same.refl _)
          rw [hb, Bool.false_and] at this
          exact this
      · obtain ⟨cells', cur', mix'⟩ := a
        obtain ⟨u, rfl, q1, q2⟩ := q
        have q4 := q2.same e
        dsimp only at hb q4
        have k4 := q1.trans (Kept.of e)
        cases cells' with
        | nil => simp at hb
        | cons c0 r =>
        refine q_seq (fun σ' H' => σ' = [some (.ref s), some (.int m), some (.int c0), none, none] ∧ Kept (two s c) H H' ∧ StrAt s c H' r cur' mix' (cnt + 1)) (fun Z1 z1 => ?_) (fun σ5 H5 hp5 => ?_)
        · walk_at "rd"
          refine ⟨_, rfl, s, _, 0, _, rfl, rfl, .inl (.inl q4.hs), atI_nat (j := 0) rfl, .inl ⟨rfl, _, .inl (.inl q4.hc)⟩, ?_⟩
          exact ⟨c, _, 0, 0, _, rfl, rfl, q4.hc, by decide, by decide, pop0 _, rfl, z1 _ _ ⟨rfl, k4.upd (.inr rfl), ⟨by rw [upd_ne (Ne.symm hne)]; exact q4.hs, by rw [upd_same]; rfl, q4.h0, q4.m0, q4.m1⟩⟩⟩
        obtain ⟨rfl, k5, q5⟩ := hp5
        refine q_seq (fun σ' H' => ∃ mx, σ' = [some (.ref s), some (.int m), some (.int c0), none, none] ∧ Kept (two s c) H H' ∧ StrAt s c H' r cur' mx (cnt + 1)) (fun Z1 z1 => ?_) (fun σ6 H6 hp6 => ?_)
        · walk_at "rd"
          refine ⟨_, rfl, s, _, 3, _, rfl, rfl, .inl (.inl q5.hs), atI_nat (j := 3) rfl, _, _, rfl, rfl, .inr ⟨by decide, by decide⟩, ?_⟩
          refine ⟨_, rfl, _, _, rfl, rfl, _, _, rfl, rfl, .inl ⟨_, rfl, _, _, rfl, rfl, pos_lit (by decide), ?_⟩⟩
          refine ⟨_, rfl, s, _, 3, 3, rfl, rfl, q5.hs, rfl, z1 _ _ ⟨_, rfl, k5.upd (.inl rfl), ⟨upd_same, by rw [upd_ne hne]; exact q5.hc, q5.h0, Int.emod_nonneg _ (by decide), Int.emod_lt_of_pos _ (by decide)⟩⟩⟩
        obtain ⟨mx, rfl, k6, q6⟩ := hp6
        walk_at "rd"
        refine ⟨_, rfl, _, _, rfl, rfl, ⟨by decide, by decide, by decide⟩, _, _, rfl, rfl, _, rfl, ?_⟩
        refine ite_b (fun hc => ?_) (fun hc => ?_)
        · refine ⟨_, rfl, _, rfl, s, _, 1, 1, rfl, rfl, q6.hs, rfl, ?_⟩
          refine ⟨(r, c0, mx), Nat.lt_succ_self _, _, rfl, k6.upd (.inl rfl), ⟨upd_same, by rw [upd_ne hne]; exact q6.hc, ?_, q6.m0, q6.m1⟩⟩
          have := of_decide_eq_true hc
          have h10 : (0 : Int) ≤ 10 ^ (18 : Int).toNat := by decide +kernel
          exact Int.le_trans h10 this
        · refine ⟨_, rfl, s, _, 1, 1, rfl, rfl, q6.hs, rfl, ?_⟩
          exact ⟨(r, 0, mx), Nat.lt_succ_self _, _, rfl, k6.upd (.inl rfl), ⟨upd_same, by rw [upd_ne hne]; exact q6.hc, Int.le_refl _, q6.m0, q6.m1⟩⟩
      · obtain ⟨u, rfl, q1, q2⟩ := q
        exact z _ _ ⟨u, _, _, _, rfl, q1.trans (Kept.of e), q2.same e⟩
    obtain ⟨u, cells3, cur3, mix3, rfl, k3, hs3⟩ := hp3
    refine q_when (decide (0 < cur3)) (fun Q1 q1 => ?_) (fun hb H4 e4 => ?_) (fun hb H4 e4 => ?_)
    · walk_at "rd"
      exact ⟨_, rfl, s, _, 1, _, rfl, rfl, .inl (.inl hs3.hs), atI_nat (j := 1) rfl, _, _, rfl, rfl, _, rfl, q1 _ (Same.refl _)⟩
    · have q4 := hs3.same e4
      have k4 := k3.trans (Kept.of e4)
      walk_at "rd"
      refine ⟨_, rfl, s, _, 1, _, rfl, rfl, .inl (.inl q4.hs), atI_nat (j := 1) rfl, .inl ⟨_, rfl, _, rfl, _, _, rfl, rfl, hm0, ?_⟩⟩
      refine ⟨_, rfl, s, _, 1, _, rfl, rfl, .inl (.inl q4.hs), atI_nat (j := 1) rfl, _, rfl, _, _, rfl, rfl, ⟨hm0, hm1⟩, ?_⟩
      refine ⟨_, rfl, s, _, 1, 1, rfl, rfl, q4.hs, rfl, _, rfl, ?_⟩
      refine k _ _ (Int.emod_nonneg _ (by omega)) (Int.emod_lt_of_pos _ hm0) (k4.upd (.inl rfl)) ⟨cells3, _, mix3, cnt + 1, ⟨upd_same, by rw [upd_ne hne]; exact q4.hc, Int.ediv_nonneg q4.h0 (by omega), q4.m0, q4.m1⟩, by omega⟩
    · have q4 := hs3.same e4
      have k4 := k3.trans (Kept.of e4)
      have b1 := q4.m0
      have b2 := q4.m1
      walk_at "rd"
      refine ⟨_, rfl, s, _, 3, _, rfl, rfl, .inl (.inl q4.hs), atI_nat (j := 3) rfl, ?_⟩
      refine ⟨_, rfl, s, _, 2, _, rfl, rfl, .inl (.inl q4.hs), atI_nat (j := 2) rfl, _, _, rfl, rfl, .inl ⟨by decide, by decide⟩, ?_⟩
      refine ⟨_, _, rfl, rfl, _, _, rfl, rfl, _, _, rfl, rfl, ⟨by decide, by decide, ?_⟩, ?_⟩
      · omega
      refine .inl ⟨_, rfl, _, _, rfl, rfl, pos_lit (by decide), ?_⟩
      generalize hmx : ((mix3 + 7919 * ((cnt + 1 : Nat) : Int) + 104729) ^ (5 : Int).toNat) % 2147483629 = mx
      have m0 : 0 ≤ mx := by rw [← hmx]; exact Int.emod_nonneg _ (by decide)
      have m1 : mx < 2147483629 := by rw [← hmx]; exact Int.emod_lt_of_pos _ (by decide)
      refine ⟨_, rfl, _, _, rfl, rfl, .inr ⟨by decide, by decide⟩, ?_⟩
      refine ⟨_, rfl, s, _, 2, _, rfl, rfl, .inl (.inl q4.hs), atI_nat (j := 2) rfl, _, _, rfl, rfl, .inl ⟨by decide, by decide⟩, ?_⟩
      refine ⟨_, _, rfl, rfl, _, _, rfl, rfl, _, _, rfl, rfl, ⟨by decide, by decide, ?_⟩, ?_⟩
      · omega
      refine .inl ⟨_, rfl, _, _, rfl, rfl, pos_lit (by decide), ?_⟩
      refine ⟨_, rfl, _, _, rfl, rfl, hm0, ?_⟩
      exact k _ _ (Int.emod_nonneg _ (by omega)) (Int.emod_lt_of_pos _ hm0) k4 ⟨cells3, _, mix3, cnt + 1, q4, by omega⟩
abbrev st__law_pick : Stmt := top 51
theorem sc__law_pick : FnScope ["stream", "some"] ["stream", "some"] (defScope st__law_pick) := ⟨rfl, rfl, rfl, by decide +kernel, rfl, by decide +kernel, by decide +kernel⟩

/-- a list of data, the stream apart -/
def spPick (K : PySem.W.Frag) : Sp := fun vs H Q _ => ∃ (s c l : Addr) (xs : List V) (n : Nat), vs = [.ref s, .ref l] ∧ Stm s c H n ∧ n < 1000000 ∧ ¬ two s c l ∧ H l = some (.lst xs) ∧ 0 < xs.length ∧ xs.length < 1000000 ∧ ∀ (r : Nat) x H', xs[r]? = some x → Kept (two s c) H H' → Stm s c H' (n + 1) → Q x H'
theorem ok_pick (G : Glob K mg) (D : Def K mg "_law_pick" st__law_pick ["stream", "some"]) (c__law_draw : Callee P w K mg base 1 "_law_draw" ["stream", "many"] spDraw) : Callee P w K mg base 2 "_law_pick" ["stream", "some"] (spPick K) := by
  obtain ⟨f, fd, F, b, m⟩ := D.ex
  have z_len := G.len
  refine ⟨f, fd, F.ok sc__law_pick (fun vs H Q E h => ?_) (fun cdv A outer s H vs Q E hr h => ?_), b, F.kp, m⟩
  · obtain ⟨s, c, l, xs, n, rfl, _⟩ := h
    rfl
  · obtain ⟨s, c, l, xs, n, rfl, hst, hn, hl, hxs, h0, h1, k⟩ := h
    have hr__law_draw := hr
    refine ⟨_, (pss_one (ps_ret (pe_ix ix_list (pv 1) (pe_own c__law_draw hr__law_draw rfl (pa_cons (pv 0) (pa_cons (pe_callB call_len_seq rfl z_len PySem.boot_len (pa_cons (pv 1) pa_nil)) pa_nil))) (fun _ _ => rfl)))), ?_⟩
    walk_at "rd"
    refine ⟨_, rfl, _, rfl, _, rfl, l, xs, rfl, .inl (.inl (.inl hxs)), ?_⟩
    refine ⟨s, c, _, n, rfl, hst, hn, by omega, by omega, fun r H' r0 r1 kp st => ?_⟩
    have hr1 : r.toNat < xs.length := by omega
    refine ⟨l, xs, r, xs[r.toNat], rfl, rfl, .inl (.inl (kp.at hl hxs)), ?_, ?_⟩
    · have e : ((r.toNat : Nat) : Int) = r := by omega
      have := atI_nat (xs := xs) (j := r.toNat) (List.getElem?_eq_getElem hr1)
      rw [e] at this
      exact this
    · exact k r.toNat _ H' (List.getElem?_eq_getElem hr1) kp st
abbrev st__law_start : Stmt := top 49
theorem sc__law_start : FnScope ["script"] ["script"] (defScope st__law_start) := ⟨rfl, rfl, rfl, by decide +kernel, rfl, by decide +kernel, by decide +kernel⟩

def spStart (K : PySem.W.Frag) : Sp := fun vs H Q _ => ∃ (l : Addr) (ns : List Int), vs = [.ref l] ∧ SqL K H l (ns.map V.int) ∧ ∀ s c H', Same H H' → H s = none → H c = none → Stm s c H' 0 → Q (.ref s) H'
theorem ok_start (G : Glob K mg) (D : Def K mg "_law_start" st__law_start ["script"]) : Callee P w K mg base 1 "_law_start" ["script"] (spStart K) := by
  obtain ⟨f, fd, F, b, m⟩ := D.ex
  have z_list := G.list
  refine ⟨f, fd, F.ok sc__law_start (fun vs H Q E h => ?_) (fun cdv A outer s H vs Q E hr h => ?_), b, F.kp, m⟩
  · obtain ⟨l, ns, rfl, _⟩ := h
    rfl
  · obtain ⟨l, ns, rfl, hl, k⟩ := h
    refine ⟨_, (pss_one (ps_ret (pe_lst (pa_cons (pe_callTy call_list_of rfl z_list boot_list (pa_cons (pv 0) pa_nil)) (pa_cons pe_int (pa_cons pe_int (pa_cons pe_int pa_nil))))))), ?_⟩
    walk_at "rd"
    refine ⟨_, rfl, l, _, rfl, .inl hl, fun c hc => ⟨by decide, fun s hs => ?_⟩⟩
    have e1 := same_new hc (.lst (ns.map V.int))
    exact k s c _ (e1.trans (same_new hs _)) (none_of_none e1 hs) hc ⟨ns, 0, 11, 0, ⟨upd_same, same_new hs _ _ _ upd_same, by decide, by decide, by decide⟩, Nat.le_refl _⟩
end
end WD

-- text: W19
set_option Elab.async false
set_option linter.all false
set_option maxRecDepth 100000
set_option maxHeartbeats 400000
namespace WD
open PySem PySem.Spec PyProof.Rows L2 GB GL
open DB hiding isi1 isiT
local macro_rules | `(tactic| walk_at "rd") => `(tactic| (dsimp only [cxOf, Cx.nox, L2.start, tRet, tRetN, tCB, tCons, tNil, tC, tVar, tTup, tLst, tB, tTest, tAnd, tOr, tNot, tAndV, tOrV, tNotV, tIfS, tIf, tSeq, tNext, tDrop, tOp, tUn, tAsg, gName, gSub, tSl, tPart, tNoPart, tCall, tPar, tBM, tChain, tYes, StX.tStar, tFld, tNotN, tIsN, tDNotIn, tDIn, tDGet, tDGet2, tDNewK, gTup, gCons, gNil, tLockE, iKeys, XR.iZipTN, sFld, sDPut, iEnum, XR.iEnumK, XR.iEnumT, iList, RZ.iZipA, iTup, iRng1, iRng2, tMake, tPar3, tRevL, XR.tTwo3, List.length_cons, List.length_nil, List.set_cons_zero, List.set_cons_succ, List.nil_append, List.cons_append, List.append_nil]))
section
variable {P : Program} {w : World} {K : PySem.W.Frag} {mg : Str → Option Value} {base : Heap}
abbrev st__law_d_loose : Stmt := top 47
theorem sc__law_d_loose : FnScope ["stream", "word", "parts", "part"] ["stream", "word"] (defScope st__law_d_loose) := ⟨rfl, rfl, rfl, by decide +kernel, rfl, by decide +kernel, by decide +kernel⟩

theorem _root_.GB.Stm.upd {s c D : Addr} {H : Hp} {n : Nat} {o : HO} (h : Stm s c H n) (nD : ¬ two s c D) : Stm s c (L2.upd H D o) n := by
  obtain ⟨a, b, d, e, h1, h2⟩ := h
  exact ⟨a, b, d, e, ⟨by rw [upd_ne (fun z => nD (.inl z.symm))]; exact h1.hs, by rw [upd_ne (fun z => nD (.inr z.symm))]; exact h1.hc, h1.h0, h1.m0, h1.m1⟩, h2⟩
theorem T.szs_take' : ∀ (ks : List T) (i : Nat), T.szs (ks.take i) ≤ T.szs ks
  | [], i => by simp
  | k :: ks, 0 => by rw [List.take_zero, T.szs]; exact Nat.zero_le _
  | k :: ks, i + 1 => by
    have := T.szs_take' ks i
    rw [List.take_succ_cons, T.szs, T.szs]
    omega
theorem szs_snoc {ks : List T} {i : Nat} {k : T} (h : ks[i]? = some k) : T.szs (ks.take (i + 1)) = T.szs (ks.take i) + k.sz := by
  have app : ∀ (a : List T) (b : T), T.szs (a ++ [b]) = T.szs a + b.sz := fun a b => by
    induction a with
    | nil => simp [T.szs]
    | cons x r ih => rw [List.cons_append, T.szs, ih, T.szs]; omega
  rw [take_snoc h, app]
theorem los_of : ∀ {ks : List T} {dl : List PyData}, dl.length = ks.length → (∀ (i : Nat) d, dl[i]? = some d → ∃ k, ks[i]? = some k ∧ Lo k d) → Los ks dl
  | [], [], _, _ => .nil
  | k :: ks, d :: dl, hl, h => by
    obtain ⟨k', h1, h2⟩ := h 0 d rfl
    cases h1
    exact .cons h2 (los_of (by simpa using hl) fun i d' hd => h (i + 1) d' (by simpa using hd))
  | [], _ :: _, hl, _ => by simp at hl
  | _ :: _, [], hl, _ => by simp at hl
def spDLoose (K : PySem.W.Frag) (n : Nat) : Sp := fun vs H Q _ => ∃ N s c v t n0, vs = [.ref s, v] ∧ (∀ a, two s c a → N a) ∧ Tr N H ∧ Stm s c H n0 ∧ n0 + t.sz < 1000000 ∧ Dp K (hide N H) v (T.dat t) ∧ t.ht < n ∧ t.sz ≤ 5000 ∧
  ∀ d v' H', Lo t d → Kept (two s c) H H' → Stm s c H' (n0 + t.sz) → Dp K (hide N H') v' d → Q v' H'
theorem ok_d_loose (G : Glob K mg) (D : Def K mg "_law_d_loose" st__law_d_loose ["stream", "word"]) (c__law_draw : Callee P w K mg base 1 "_law_draw" ["stream", "many"] spDraw) : ∀ n, Callee P w K mg base (n + 1) "_law_d_loose" ["stream", "word"] (spDLoose K n)
  | 0 => by
    obtain ⟨f, fd, F, b, m⟩ := D.ex
    refine ⟨f, fd, F.ok sc__law_d_loose (fun vs H Q E h => ?_) (fun cdv A outer s H vs Q E hr h => ?_), b, F.kp, m⟩
    · obtain ⟨N, s, c, v, t, n0, rfl, _⟩ := h
      rfl
    · obtain ⟨N, s, c, v, t, n0, rfl, _, _, _, _, _, h, _⟩ := h
      exact absurd h (Nat.not_lt_zero _)
  | n + 1 => by
    have c__law_d_loose := ok_d_loose G D c__law_draw n
    obtain ⟨f, fd, F, b, m⟩ := D.ex
    have z_isinstance := G.isinstance
    have z_str := G.str
    have z_tuple := G.tuple
    refine ⟨f, fd, F.ok sc__law_d_loose (fun vs H Q E h => ?_) (fun cdv A outer s_ H vs Q E hr h => ?_), b, F.kp, m⟩
    · obtain ⟨N, s, c, v, t, n0, rfl, _⟩ := h
      rfl
    obtain ⟨N, s, c, v, t, n0, rfl, hM, hN, hst, hb, hd, hh, hz, k⟩ := h
    have hr__law_d_loose := hr
    have hr__law_draw := hr.mono (show 1 ≤ n + 1 by omega)
    refine ⟨_, (pss_cons (ps_if (pt_val (pe_callB call_isi rfl z_isinstance boot_isinstance (pa_cons (pv 1) (pa_cons (pe_bltn (v := .ty "str") rfl z_str boot_str rfl) pa_nil)))) (pss_one (ps_ret (pv 1))) pss_nil) (pss_cons (ps_set (i := 2) sc__law_d_loose.nd rfl (Or.inl rfl) (pe_op op_cat (pe_lst (pa_cons (pe_ix ix_tup (pv 1) pe_int (fun _ _ => rfl)) pa_nil)) (pe_lc (own := [("part", 3)]) (g := (gName 3)) (tt := tYes) rfl sc__law_d_loose.nd (pi_tup (pe_slice sl_tupA (pv 1) (po_some pe_int) po_none)) (blkOk_by (N := ["stream", "word", "parts", "part"]) (sc := defScope st__law_d_loose) (by decide +kernel)) (fun _ _ _ _ _ => (pg_name (i := 3) sc__law_d_loose.nd rfl (Or.inl rfl))) (fun _ _ _ _ _ => pts_nil) (fun _ _ _ _ _ => (pe_own c__law_d_loose hr__law_d_loose rfl (pa_cons (pv 0) (pa_cons (pv 3) pa_nil))))))) (pss_one (ps_ret (pe_ifExp (pt_cmpR op_eq (pe_own c__law_draw hr__law_draw rfl (pa_cons (pv 0) (pa_cons pe_int pa_nil))) pe_int (nomark _)) (pv 2) (pe_callTy call_tuple_of rfl z_tuple boot_tuple (pa_cons (pv 2) pa_nil))))))), ?_⟩
    have hd1 : DE K H v t.dat := DE.of (Dp.same hide_same hd)
    cases t with
    | v y =>
      cases hd
      walk_at "rd"
      exact ⟨_, rfl, isi1 hd1 (kb_str (.str y)) ⟨_, rfl, iteT ⟨_, rfl, k (.str y) _ H (.v y) (Kept.refl H) (hst.mono (Nat.le_add_right _ _)) (.str y)⟩⟩⟩
    | n y ks =>
      obtain ⟨wa, ws, rfl, hws, hwk⟩ := word_n hd
      have hwl : ws.length = ks.length := by have := DpAll.length hwk; rw [List.length_map] at this; exact this
      have hz1 := hz
      rw [T.sz] at hz1
      rw [T.sz] at hb
      have hsl := T.szs_len ks
      rw [T.ht] at hh
      walk_at "rd"
      refine ⟨_, rfl, isi1 hd1 (kb_str (.tuple _)) ⟨_, rfl, iteF ?_⟩⟩
      refine ⟨_, rfl, wa, _, 0, _, rfl, rfl, Same.tupL hide_same hws, atI_nat (j := 0) rfl, Nat.le_trans (by decide : 1 ≤ 100000) (by rw [sizeLine_eq]; decide), fun p0 hp0 => ?_⟩
      have s0 := same_new hp0 (.lst [.str y])
      refine rd_lc ?_
      walk_at "rd"
      refine ⟨_, rfl, 1, rfl, wa, _, rfl, Same.tupL (hide_same.trans s0) hws, fun q => absurd q (cut1_ne _ _), fun _ p hp => ?_⟩
      rw [cut1]
      refine ⟨p, rfl, ⟨_, .inl (.inl upd_same)⟩, ?_⟩
      have s1 := same_new hp (.tup ws)
      have s01 := s0.trans s1
      have hst1 := hst.same s01
      have hN1 := hN.same s01
      refine lck (K := K) (N := N) (M := two s c) sp_tup (by omega) hM hN1 (fun i H' => Stm s c H' (n0 + T.szs (ks.take i))) (hst1.mono (Nat.le_add_right _ _)) (fun i H1 H2 q e => q.same e) (fun i H1 D o q nD => q.upd nD) (fun i H1 q => q.tr) (fun H1 kp => .inl (.inl (kp.at (fun q => (hN.same s0).off hp (hM p q)) upd_same)))
        (fun i d => ∃ k, ks[i]? = some k ∧ Lo k d) (fun i y Hq Hr N7 Q2 Q3 hi k7 st7 e7 r7 tr7 nn7 hs7 q2 => ?_) (fun Dl H2 ys dl hDl nDl k7 st7 hy7 da hlen hok => ?_)
      · obtain ⟨rq, rfl⟩ := r7
        obtain ⟨d7, hd7, hy7⟩ := DpAll.get (DpAll.same ((hide_mono s01).trans hs7) hwk) rq
        rw [List.getElem?_map] at hd7
        obtain ⟨k7', hk7, rfl⟩ := Option.map_eq_some_iff.mp hd7
        have hm7 := List.mem_of_getElem? hk7
        have h1 := T.ht_mem hm7
        have h2 := szs_snoc hk7
        have h3 := T.szs_take' ks (i + 1)
        walk_at "rd"
        refine ⟨rfl, iteT ?_⟩
        refine ⟨_, rfl, _, rfl, N7, s, c, y, k7', _, rfl, fun a q => nn7 a (hM a q), tr7, st7.same e7, by omega, hy7, by omega, by omega, fun d v' H' lo kp st dp => ?_⟩
        rw [Nat.add_assoc, ← h2] at st
        exact q2 v' H' d kp st ⟨k7', hk7, lo⟩ dp
      · have e : T.szs (ks.take ws.length) = T.szs ks := by rw [hwl, List.take_length]
        rw [e] at st7
        have np0 : ¬ two s c p0 := fun q => hN.off hp0 (hM p0 q)
        have lo := los_of (ks := ks) (dl := dl) (by omega) hok
        have hp7 : H2 p0 = some (.lst [.str y]) := k7.at np0 (s1 _ _ upd_same)
        have yl : ys.length = ks.length := by have := DpAll.length da; omega
        refine ⟨_, _, _, _, rfl, rfl, hp7, hy7, by rw [sizeLine_eq]; simp; omega, fun p3 hp3 => ?_⟩
        have s3 := same_new hp3 (.lst ([V.str y] ++ ys))
        have kA : Kept (two s c) H H2 := Kept.after s01 k7
        have k3 := kA.same s3
        have hN2 : Tr N H2 := kA.tr hN st7.tr
        have hN3 := hN2.same s3
        have st3 := st7.same s3
        have nN3 : ¬ N p3 := hN2.off hp3
        refine ⟨_, rfl, s, c, 3, _, rfl, st3, by omega, by decide, by decide, fun r H4 r0 r1 kp4 st4 => ?_⟩
        have hp4 : H4 p3 = some (.lst ([V.str y] ++ ys)) := kp4.at (fun q => nN3 (hM p3 q)) upd_same
        have k4 := k3.trans kp4
        have hN4 : Tr N H4 := k4.tr hN st4.tr
        have da4 : DpAll K (hide N H4) ([V.str y] ++ ys) (.str y :: dl) := .cons (.str y) (DpAll.same ((hide_mono s3).trans (kp4.sub hM)) da)
        have st5 : Stm s c H4 (n0 + (T.n y ks).sz) := by
          rw [T.sz]
          exact st4
        refine ⟨rfl, _, rfl, ite_b (fun e => ?_) (fun e => ?_)⟩
        · exact ⟨_, rfl, k _ _ H4 (.l lo) k4 st5 (.lst (.inl (.inl ((hide_off nN3).trans hp4))) da4)⟩
        · refine ⟨_, rfl, p3, _, rfl, .inl ⟨.inl (.inl hp4), fun p5 hp5 => ?_⟩⟩
          have s5 := same_new hp5 (.tup ([V.str y] ++ ys))
          exact k _ _ _ (.t lo) (k4.same s5) (st5.same s5) (.tup (.inl (.inl (hide_upd (hN4.off hp5)))) (DpAll.same (hide_mono s5) da4))
end
end WD

-- text: W20
set_option Elab.async false
set_option linter.all false
set_option maxRecDepth 100000
set_option maxHeartbeats 400000
namespace WD
open PySem PySem.Spec PyProof.Rows L2 GB GL
open DB hiding isi1 isiT
local macro_rules | `(tactic| walk_at "rd") => `(tactic| (dsimp only [cxOf, Cx.nox, L2.start, tRet, tRetN, tCB, tCons, tNil, tC, tVar, tTup, tLst, tB, tTest, tAnd, tOr, tNot, tAndV, tOrV, tNotV, tIfS, tIf, tSeq, tNext, tDrop, tOp, tUn, tAsg, gName, gSub, tSl, tPart, tNoPart, tCall, tPar, tBM, tChain, tYes, StX.tStar, tFld, tNotN, tIsN, tDNotIn, tDIn, tDGet, tDGet2, tDNewK, gTup, gCons, gNil, tLockE, iKeys, XR.iZipTN, sFld, sDPut, iEnum, XR.iEnumK, XR.iEnumT, iList, RZ.iZipA, iTup, iRng1, iRng2, tMake, tPar3, tRevL, XR.tTwo3, List.length_cons, List.length_nil, List.set_cons_zero, List.set_cons_succ, List.nil_append, List.cons_append, List.append_nil]))
section
variable {P : Program} {w : World} {K : PySem.W.Frag} {mg : Str → Option Value} {base : Heap}
abbrev st__law_d_parts : Stmt := top 44
theorem sc__law_d_parts : FnScope ["word", "found", "index", "part", "place", "deep"] ["word"] (defScope st__law_d_parts) := ⟨rfl, rfl, rfl, by decide +kernel, rfl, by decide +kernel, by decide +kernel⟩

/-- a place and a part -/
structure PartAt (K : PySem.W.Frag) (h : Hp) (v : V) (q : List Nat × T) : Prop where
  ex : ∃ (A L : Addr) (wv : V), v = .ref A ∧ h A = some (.tup [.ref L, wv]) ∧ h L = some (.lst (nV q.1)) ∧ Dp K h wv q.2.dat
theorem PartAt.same {K : PySem.W.Frag} {h h' : Hp} {v : V} {q : List Nat × T} (p : PartAt K h v q) (e : Same h h') : PartAt K h' v q := by
  obtain ⟨T, L, wv, a, b, c, d⟩ := p.ex
  exact ⟨T, L, wv, a, e _ _ b, e _ _ c, Dp.same e d⟩
abbrev Parts (K : PySem.W.Frag) (h : Hp) : List V → List (List Nat × T) → Prop := Paired (PartAt K h)
theorem Parts.same {K : PySem.W.Frag} {h h' : Hp} {ys : List V} {zs : List (List Nat × T)} (p : Parts K h ys zs) (e : Same h h') : Parts K h' ys zs := paired_imp (fun _ _ q => q.same e) p
theorem parts_ht : ∀ (t : T), ∀ p ∈ partsT t, p.1.length ≤ t.ht := fun t => by
  have key : ∀ n (t : T), t.sz < n → ∀ p ∈ partsT t, p.1.length ≤ t.ht := fun n => by
    induction n with
    | zero => exact fun t h => absurd h (Nat.not_lt_zero _)
    | succ n ih =>
      intro t h p hp
      cases t with
      | v x =>
        rw [partsT, List.mem_singleton] at hp
        subst hp
        exact Nat.zero_le _
      | n x ks =>
        rw [partsT] at hp
        rcases List.mem_cons.mp hp with rfl | hp
        · exact Nat.zero_le _
        · obtain ⟨j, k, q, h1, h2, rfl⟩ := partsTs_mem ks 0 p hp
          have hs := T.sz_mem (List.mem_of_getElem? h1)
          have hh := T.ht_mem (List.mem_of_getElem? h1)
          rw [T.sz] at h
          have := ih k (by omega) q h2
          rw [T.ht, List.length_cons]
          omega
  exact key (t.sz + 1) t (Nat.lt_succ_self _)
theorem partsTs_snoc {ks : List T} {i : Nat} {k : T} (h : ks[i]? = some k) : partsTs 0 (ks.take (i + 1)) = partsTs 0 (ks.take i) ++ (partsT k).map fun p => (i :: p.1, p.2) := by
  have hl : (ks.take i).length = i := List.length_take_of_le (Nat.le_of_lt (List.getElem?_eq_some_iff.mp h).1)
  rw [take_snoc h, partsTs_app, hl, Nat.zero_add, partsTs, partsTs, List.append_nil]
theorem partsTs_len : ∀ (i : Nat) (ks : List T), (partsTs i ks).length = T.szs ks
  | _, [] => rfl
  | i, k :: ks => by rw [partsTs, List.length_append, List.length_map, parts_len k, partsTs_len (i + 1) ks, T.szs]
def spDParts (K : PySem.W.Frag) (n : Nat) : Sp := fun vs H Q _ => ∃ N v t, vs = [v] ∧ Tr N H ∧ Dp K (hide N H) v (T.dat t) ∧ t.ht < n ∧ t.sz ≤ 5000 ∧ ∀ H' l ys, Same H H' → H l = none → H' l = some (.lst ys) → Parts K (hide N H') ys (partsT t) → Q (.ref l) H'
theorem ok_d_parts (G : Glob K mg) (D : Def K mg "_law_d_parts" st__law_d_parts ["word"]) : ∀ n, n ≤ 1000 → Callee P w K mg base (n + 1) "_law_d_parts" ["word"] (spDParts K n)
  | 0, _ => by
    obtain ⟨f, fd, F, b, m⟩ := D.ex
    refine ⟨f, fd, F.ok sc__law_d_parts (fun vs H Q E h => ?_) (fun cdv A outer s H vs Q E hr h => ?_), b, F.kp, m⟩
    · obtain ⟨N, v, x, rfl, _⟩ := h
      rfl
    · obtain ⟨N, v, x, rfl, _, _, h, _⟩ := h
      exact absurd h (Nat.not_lt_zero _)
  | n + 1, hn1 => by
    have c__law_d_parts := ok_d_parts G D n (by omega)
    obtain ⟨f, fd, F, b, m⟩ := D.ex
    have z_isinstance := G.isinstance
    have z_str := G.str
    have z_enumerate := G.enumerate
    refine ⟨f, fd, F.ok sc__law_d_parts (fun vs H Q E h => ?_) (fun cdv A outer s H vs Q E hr h => ?_), b, F.kp, m⟩
    · obtain ⟨N, v, x, rfl, _⟩ := h
      rfl
    obtain ⟨N, v, t, rfl, hN, hd, hx, hz, k⟩ := h
    have hr__law_d_parts := hr
    have hu := hu_of hr
    refine ⟨_, (pss_cons (ps_set (i := 1) sc__law_d_parts.nd rfl (Or.inl rfl) (pe_lst (pa_cons (pe_tup (pa_cons (pe_lst pa_nil) (pa_cons (pv 0) pa_nil))) pa_nil))) (pss_cons (ps_if (pt_not (pt_val (pe_callB call_isi rfl z_isinstance boot_isinstance (pa_cons (pv 0) (pa_cons (pe_bltn (v := .ty "str") rfl z_str boot_str rfl) pa_nil))))) (pss_one (ps_for PassesOwn.never rfl (XR.pi_enumT rfl z_enumerate (pa_cons (pe_slice sl_tupA (pv 0) (po_some pe_int) po_none) pa_nil)) (pg_tup rfl (pgs_cons (pg_name (i := 2) sc__law_d_parts.nd rfl (Or.inr rfl)) (pgs_cons (pg_name (i := 3) sc__law_d_parts.nd rfl (Or.inl rfl)) pgs_nil))) (pss_one (ps_expr (pe_bm PySem.F.plainAttrs_list PySem.F.slot_list_extend PySem.F.type_list_extend mt_extend (pv 1) (pa_cons (pe_lc (own := [("place", 4), ("deep", 5)]) (g := (gTup K 2 (gCons (gName 4) (gCons (gName 5) gNil)))) (tt := tYes) rfl sc__law_d_parts.nd (pi_list (pe_own c__law_d_parts hr__law_d_parts rfl (pa_cons (pv 3) pa_nil))) (blkOk_by (N := ["word", "found", "index", "part", "place", "deep"]) (sc := defScope st__law_d_parts) (by decide +kernel)) (fun _ _ _ _ _ => (pg_tup rfl (pgs_cons (pg_name (i := 4) sc__law_d_parts.nd rfl (Or.inl rfl)) (pgs_cons (pg_name (i := 5) sc__law_d_parts.nd rfl (Or.inl rfl)) pgs_nil)))) (fun _ _ _ _ _ => pts_nil) (fun _ _ _ _ _ => (pe_tup (pa_cons (pe_op op_cat (pe_lst (pa_cons (pv 2) pa_nil)) (pv 4)) (pa_cons (pv 5) pa_nil))))) pa_nil)))))) pss_nil) (pss_one (ps_ret (pv 1))))), ?_⟩
    have hd1 : DE K H v t.dat := DE.of (Dp.same hide_same hd)
    refine q_seq (fun σ' H' => ∃ p u, σ' = [some v, some (.ref p), none, none, none, none] ∧ H p = none ∧ Same H H' ∧ H' p = some (.lst [.ref u]) ∧ PartAt K (hide (plus N p) H') (.ref u) ([], t) ∧ Tr (plus N p) H') (fun Z z => ?_) (fun σ2 H2 hp2 => ?_)
    · walk_at "rd"
      refine ⟨by decide, fun p1 h1 => ⟨_, rfl, by decide, fun p2 h2 => ⟨by decide, fun p3 h3 => ?_⟩⟩⟩
      have e1 := same_new h1 (.lst [])
      have e2 := same_new h2 (.tup [.ref p1, v])
      have e3 := same_new h3 (.lst [.ref p2])
      have hp3 : H p3 = none := none_of_none (e1.trans e2) h3
      have n2 : p2 ≠ p3 := fun q => by subst q; rw [upd_same] at h3; cases h3
      have n1 : p1 ≠ p3 := fun q => by subst q; rw [e2 _ _ upd_same] at h3; cases h3
      have n1' : ¬ plus N p3 p1 := fun q => q.elim n1 (hN.off h1)
      have n2' : ¬ plus N p3 p2 := fun q => q.elim n2 ((hN.same e1).off h2)
      have eA := (e1.trans e2).trans e3
      refine z _ _ ⟨p3, p2, rfl, hp3, eA, upd_same, ?_, plus_tr (hN.same eA) upd_same⟩
      exact ⟨p2, p1, v, rfl, (hide_off n2').trans (e3 _ _ upd_same), (hide_off n1').trans (e3 _ _ (e2 _ _ upd_same)), Dp.same (plus_new hp3 eA) hd⟩
    obtain ⟨p, u, rfl, hp0, s2, hp, ht, tr2⟩ := hp2
    cases t with
    | v y =>
      refine q_if false (fun Q1 q1 => ?_) (fun hb => nomatch hb) (fun _ H3 e3 => ?_)
      · walk_at "rd"
        exact ⟨_, rfl, isi1 (DE.same s2 hd1) (kb_str (.str y)) ⟨_, rfl, q1 H2 (Same.refl _)⟩⟩
      · walk_at "rd"
        exact ⟨_, rfl, k H3 p [.ref u] (s2.trans e3) hp0 (e3 _ _ hp) (.cons ((ht.same (hide_mono e3)).same plus_down) .nil)⟩
    | n y ks =>
      obtain ⟨wa, ws, rfl, hws, hwk⟩ := word_n hd
      have lk : ws.length = ks.length := by have := DpAll.length hwk; rw [List.length_map] at this; exact this
      have hz1 := hz
      rw [T.sz] at hz1
      have hsl := T.szs_len ks
      rw [T.ht] at hx
      refine q_if true (fun Q1 q1 => ?_) (fun _ H3 e3 => ?_) (fun hb => nomatch hb)
      · walk_at "rd"
        exact ⟨_, rfl, isi1 (DE.same s2 hd1) (kb_str (.tuple _)) ⟨_, rfl, q1 H2 (Same.refl _)⟩⟩
      refine rd_for ?_
      walk_at "rd"
      refine ⟨_, rfl, 1, rfl, wa, _, rfl, Same.tupL (hide_same.trans (s2.trans e3)) hws, fun q => absurd q (cut1_ne _ _), fun _ q1 hq1 => ?_⟩
      rw [cut1]
      have t1 := (s2.trans e3).trans (same_new hq1 (.tup ws))
      have t2 := e3.trans (same_new hq1 (.tup ws))
      have hpq := t2 _ _ hp
      refine ⟨q1, _, rfl, .inl (.inl upd_same), ?_⟩
      refine forq (sp_enumT (K := K) (xs := ws)) (fun i σ' H' => ∃ u1 u2 ys, σ' = [some (.ref wa), some (.ref p), u1, u2, none, none] ∧ Same H H' ∧ Tr (plus N p) H' ∧ H' q1 = some (.tup ws) ∧ H' p = some (.lst ys) ∧ Parts K (hide (plus N p) H') ys (([], T.n y ks) :: partsTs 0 (ks.take i))) ?_ (fun i σ' H' q => ?_) (fun i v σ' H0' H' hi q e r => ?_) (fun σ' H' q => ?_)
      · refine ⟨_, _, [.ref u], rfl, t1, tr2.same t2, upd_same, hpq, .cons (ht.same (hide_mono t2)) .nil⟩
      · obtain ⟨_, _, _, _, _, _, h, _⟩ := q
        exact .inl (.inl h)
      · obtain ⟨u1, u2, ys, rfl, f1, ft, f2, f3, f4⟩ := q
        obtain ⟨tp, vi, htp, rfl, rfl, hvi⟩ := r
        refine g_pair upd_same rfl ?_
        have e' := e
        generalize upd H0' tp (.tup [.int (i : Nat), vi]) = H' at e'
        obtain ⟨d, hd1', hd2⟩ := DpAll.get hwk hvi
        rw [List.getElem?_map] at hd1'
        obtain ⟨xi, hxi, rfl⟩ := Option.map_eq_some_iff.mp hd1'
        have hm := List.mem_of_getElem? hxi
        have h1 := T.ht_mem hm
        have h2 := T.sz_mem hm
        have g1 := f1.trans e'
        walk_at "rd"
        refine ⟨_, rfl, .inl ⟨rfl, ys, .inl (.inl (e' _ _ f3))⟩, ?_⟩
        refine rd_lc ?_
        walk_at "rd"
        refine ⟨_, rfl, plus N p, _, xi, rfl, ft.same e', Dp.same (plus_new hp0 g1) hd2, by omega, by omega, fun H5 l ys' e5 _ hl d5 => ?_⟩
        refine ⟨l, rfl, ⟨_, .inl (.inl hl)⟩, ?_⟩
        have ly : ys'.length = (partsT xi).length := paired_len d5
        have lp := parts_len xi
        refine lcr (N := plus N p) (ft.same (e'.trans e5)) (src_list (.inl (.inl hl))) (by omega) (fun _ => true) (fun j h v => ∃ z, (partsT xi)[j]? = some z ∧ PartAt K h v (i :: z.1, z.2)) (fun j h h' v e q => by obtain ⟨z, h1, h2⟩ := q; exact ⟨z, h1, h2.same e⟩) (fun j y H6 N6 Q2 Q3 hj e6 r6 tr6 hs6 q2 q3 => ?_) (fun Dl H6 ys6 nD e6 hy6 da => ?_)
        · obtain ⟨z, hzj, hy6⟩ := GB.paired_get (d5.same hs6) r6
          have hlz := parts_ht xi z (List.mem_of_getElem? hzj)
          obtain ⟨T, L, wv, rfl, hT, hL, dw⟩ := hy6.ex
          refine g_pair (hide_same _ _ hT) rfl ?_
          walk_at "rd"
          refine ⟨rfl, iteT ?_⟩
          have e1 := fun p1 (h1 : H6 p1 = none) => same_new h1 (.lst [.int (i : Nat)])
          refine ⟨_, rfl, by decide, fun p1 h1 => ⟨_, rfl, p1, L, _, _, rfl, rfl, upd_same, e1 p1 h1 _ _ (hide_same _ _ hL), ?_, fun p2 h2 => ⟨_, rfl, by decide, fun p3 h3 => ?_⟩⟩⟩
          · rw [List.length_map, List.length_singleton]
            exact Nat.le_trans (show 1 + z.1.length ≤ 2000 by omega) (by decide)
          · have e2 := same_new h2 (.lst ([V.int (i : Nat)] ++ nV z.1))
            have e3 := same_new h3 (.tup [.ref p2, wv])
            have e123 := ((e1 p1 h1).trans e2).trans e3
            have n2 : ¬ N6 p2 := (tr6.same (e1 p1 h1)).off h2
            have n3 : ¬ N6 p3 := (tr6.same ((e1 p1 h1).trans e2)).off h3
            exact q2 _ _ e123 rfl ⟨z, hzj, p3, p2, wv, rfl, (hide_off n3).trans upd_same, (hide_off n2).trans (e3 _ _ upd_same), Dp.same (hide_mono e123) dw⟩
        · have e56 := e5.trans e6
          have hp6 := (e'.trans e56) _ _ f3
          have da2 : Parts K (hide (plus N p) H6) ys6 ((partsT xi).map fun z => (i :: z.1, z.2)) := by
            have hl6 : ys6.length = (partsT xi).length := by
              have := paired_len da
              rw [List.filter_eq_self.mpr (fun _ _ => rfl), List.length_range] at this
              omega
            have : Paired (fun v z => PartAt K (hide (plus N p) H6) v (i :: z.1, z.2)) ys6 (partsT xi) := by
              refine paired_of_get hl6 fun m v z hv hz => ?_
              obtain ⟨m', hm', z', hz', q⟩ := GB.paired_get da hv
              rw [List.filter_eq_self.mpr (fun _ _ => rfl)] at hm'
              have : m' = m := by
                have hlt : m < (List.range ys'.length).length := (List.getElem?_eq_some_iff.mp hm').1
                rw [List.getElem?_range (by simpa using hlt)] at hm'
                exact (Option.some.inj hm').symm
              subst this
              rw [hz] at hz'
              cases hz'
              exact q
            exact paired_map this
          have hl6 : ys6.length = (partsT xi).length := by have := paired_len da2; rw [List.length_map] at this; exact this
          have hly : ys.length = T.szs (ks.take i) + 1 := by have := paired_len f4; rw [List.length_cons, partsTs_len] at this; exact this
          have htk := T.szs_take' ks i
          refine ⟨p, Dl, ys, ys6, rfl, rfl, hp6, hy6, ?_, ?_⟩
          · exact Nat.le_trans (show ys.length + ys6.length ≤ 50000 by omega) (by decide)
          · refine ⟨_, _, ys ++ ys6, rfl, same_upd hp0 (g1.trans e56) _, tr_upd (ft.same (e'.trans e56)), ?_, upd_same, ?_⟩
            · have : q1 ≠ p := fun z => by subst z; rw [f2] at f3; cases f3
              rw [upd_ne this]
              exact (e'.trans e56) _ _ f2
            · rw [plus_in, partsTs_snoc hxi, ← List.cons_append]
              exact paired_app (f4.same (hide_mono (e'.trans e56))) da2
      · obtain ⟨u1, u2, ys, rfl, f1, ft, f2, f3, f4⟩ := q
        rw [lk, List.take_length] at f4
        refine ⟨_, rfl, k H' p ys f1 hp0 f3 ?_⟩
        have := f4.same plus_down
        rw [partsT]
        exact this
end
end WD

-- text: W21
set_option Elab.async false
set_option linter.all false
set_option maxRecDepth 100000
set_option maxHeartbeats 400000
namespace WD
open PySem PySem.Spec PyProof.Rows L2 GB GL
open DB hiding isi1 isiT
local macro_rules | `(tactic| walk_at "rd") => `(tactic| (dsimp only [cxOf, Cx.nox, L2.start, tRet, tRetN, tCB, tCons, tNil, tC, tVar, tTup, tLst, tB, tTest, tAnd, tOr, tNot, tAndV, tOrV, tNotV, tIfS, tIf, tSeq, tNext, tDrop, tOp, tUn, tAsg, gName, gSub, tSl, tPart, tNoPart, tCall, tPar, tBM, tChain, tYes, StX.tStar, tFld, tNotN, tIsN, tDNotIn, tDIn, tDGet, tDGet2, tDNewK, gTup, gCons, gNil, tLockE, iKeys, XR.iZipTN, sFld, sDPut, iEnum, XR.iEnumK, XR.iEnumT, iList, RZ.iZipA, iTup, iRng1, iRng2, tMake, tPar3, tRevL, XR.tTwo3, List.length_cons, List.length_nil, List.set_cons_zero, List.set_cons_succ, List.nil_append, List.cons_append, List.append_nil]))
section
variable {P : Program} {w : World} {K : PySem.W.Frag} {mg : Str → Option Value} {base : Heap}
abbrev st__law_each_once : Stmt := top 53
theorem sc__law_each_once : FnScope ["things", "found", "thing"] ["things"] (defScope st__law_each_once) := ⟨rfl, rfl, rfl, by decide +kernel, rfl, by decide +kernel, by decide +kernel⟩

theorem onceS_snoc {xs : List Str} {i : Nat} {x : Str} (h : xs[i]? = some x) : onceS (xs.take (i + 1)) = insS (onceS (xs.take i)) x := by
  rw [take_snoc h]
  unfold onceS
  rw [List.foldl_append]
  rfl
theorem onceS_len : ∀ (xs acc : List Str), (xs.foldl insS acc).length ≤ acc.length + xs.length
  | [], acc => Nat.le_refl _
  | x :: xs, acc => by
    have := onceS_len xs (insS acc x)
    have h : (insS acc x).length ≤ acc.length + 1 := by
      unfold insS
      split
      · omega
      · rw [List.length_append]; exact Nat.le_refl _
    rw [List.foldl_cons, List.length_cons]
    omega
theorem inV_strs (x : Str) (ys : List Str) : inV (.str x) (ys.map V.str) = decide (x ∈ ys) := by
  unfold inV
  rw [List.any_map, Bool.eq_iff_iff, List.any_eq_true, decide_eq_true_iff]
  constructor
  · rintro ⟨y, hy, e⟩
    have e : (y == x) = true := e
    exact (eq_of_beq e) ▸ hy
  · intro h
    exact ⟨x, h, show (x == x) = true from beq_self_eq_true x⟩
theorem flat_strs (ys : List Str) : (ys.map V.str).all flatV = true := by
  rw [List.all_map, List.all_eq_true]
  intro y _
  rfl
def spOnce (K : PySem.W.Frag) : Sp := fun vs H Q _ => ∃ (l : Addr) (xs : List Str), vs = [.ref l] ∧ SqL K H l (xs.map V.str) ∧ xs.length ≤ 50000 ∧ ∀ H' p, Same H H' → H p = none → H' p = some (.lst ((onceS xs).map V.str)) → Q (.ref p) H'
theorem ok_once (D : Def K mg "_law_each_once" st__law_each_once ["things"]) : Callee P w K mg base 1 "_law_each_once" ["things"] (spOnce K) := by
  obtain ⟨f, fd, F, b, m⟩ := D.ex
  refine ⟨f, fd, F.ok sc__law_each_once (fun vs H Q E h => ?_) (fun cdv A outer s H vs Q E hr h => ?_), b, F.kp, m⟩
  · obtain ⟨l, xs, rfl, _⟩ := h
    rfl
  obtain ⟨l, xs, rfl, hl, hz, k⟩ := h
  refine ⟨_, (pss_cons (ps_set (i := 1) sc__law_each_once.nd rfl (Or.inl rfl) (pe_lst pa_nil)) (pss_cons (ps_for PassesOwn.never rfl (pi_list (pv 0)) (pg_name (i := 2) sc__law_each_once.nd rfl (Or.inl rfl)) (pss_one (ps_if (pt_cmpR op_notIn_seq (pv 2) (pv 1) (by with_unfolding_all rfl)) (pss_one (ps_expr (pe_bm PySem.F.plainAttrs_list PySem.F.slot_list_append PySem.F.type_list_append mt_append (pv 1) (pa_cons (pv 2) pa_nil)))) pss_nil))) (pss_one (ps_ret (pv 1))))), ?_⟩
  walk_at "rd"
  refine ⟨by decide, fun p hp => ?_⟩
  have s0 := same_new hp (.lst [])
  refine rd_for ?_
  walk_at "rd"
  refine ⟨_, rfl, l, rfl, ⟨_, s0.seq hl⟩, ?_⟩
  refine forq (sp_list (K := K) (xs := xs.map V.str)) (fun i σ' H' => ∃ u, σ' = [some (.ref l), some (.ref p), u] ∧ Same H H' ∧ H' p = some (.lst ((onceS (xs.take i)).map V.str))) ⟨_, rfl, s0, upd_same⟩ (fun i σ' H' q => ?_) (fun i v σ' H' H'' hi q e r => ?_) (fun σ' H' q => ?_)
  · obtain ⟨_, _, s1, _⟩ := q
    exact s1.seq hl
  · obtain ⟨u, rfl, s1, h1⟩ := q
    obtain ⟨r1, rfl⟩ := r
    rw [List.getElem?_map] at r1
    obtain ⟨x, hx, rfl⟩ := Option.map_eq_some_iff.mp r1
    have s2 := s1.trans e
    have h2 := e _ _ h1
    walk_at "rd"
    refine ⟨_, rfl, _, rfl, p, _, rfl, .inl (.inl (.inl h2)), rfl, flat_strs _, _, rfl, ?_⟩
    have hon := onceS_snoc hx
    have hln := onceS_len (xs.take i) []
    rw [List.length_take] at hln
    refine ite_b (fun hc => ?_) (fun hc => ?_)
    · have hn : ¬ x ∈ onceS (xs.take i) := by
        have hc : (!inV (.str x) ((onceS (xs.take i)).map V.str)) = true := hc
        rw [inV_strs] at hc
        simpa using hc
      refine ⟨_, rfl, .inl ⟨rfl, _, .inl (.inl h2)⟩, _, rfl, p, _, _, rfl, rfl, h2, ?_, ?_⟩
      · rw [List.length_map]
        show (List.foldl insS [] (List.take i xs)).length < _
        rw [sizeLine_eq]
        simp at hln
        omega
      · refine ⟨_, rfl, same_upd hp s2 _, ?_⟩
        rw [upd_same, hon, insS, if_neg hn, List.map_append]
        rfl
    · have hn : x ∈ onceS (xs.take i) := by
        have hc : (!inV (.str x) ((onceS (xs.take i)).map V.str)) = false := hc
        rw [inV_strs] at hc
        simpa using hc
      refine ⟨_, rfl, s2, ?_⟩
      rw [h2, hon, insS, if_pos hn]
  · obtain ⟨u, rfl, s1, h1⟩ := q
    rw [List.length_map, List.take_length] at h1
    exact ⟨_, rfl, k H' p s1 hp h1⟩
end
end WD

-- text: W22
set_option Elab.async false
set_option linter.all false
set_option maxRecDepth 100000
set_option maxHeartbeats 400000
namespace WD
open PySem PySem.Spec PyProof.Rows L2 GB GL
open DB hiding isi1 isiT
local macro_rules | `(tactic| walk_at "rd") => `(tactic| (dsimp only [cxOf, Cx.nox, L2.start, tRet, tRetN, tCB, tCons, tNil, tC, tVar, tTup, tLst, tB, tTest, tAnd, tOr, tNot, tAndV, tOrV, tNotV, tIfS, tIf, tSeq, tNext, tDrop, tOp, tUn, tAsg, gName, gSub, tSl, tPart, tNoPart, tCall, tPar, tBM, tChain, tYes, StX.tStar, tFld, tNotN, tIsN, tDNotIn, tDIn, tDGet, tDGet2, tDNewK, gTup, gCons, gNil, tLockE, iKeys, XR.iZipTN, sFld, sDPut, iEnum, XR.iEnumK, XR.iEnumT, iList, RZ.iZipA, iTup, iRng1, iRng2, tMake, tPar3, tRevL, XR.tTwo3, List.length_cons, List.length_nil, List.set_cons_zero, List.set_cons_succ, List.nil_append, List.cons_append, List.append_nil]))
section
variable {P : Program} {w : World} {K : PySem.W.Frag} {mg : Str → Option Value} {base : Heap}
abbrev st__law_d_variables : Stmt := top 45
theorem sc__law_d_variables : FnScope ["words", "found", "word", "place", "part"] ["words"] (defScope st__law_d_variables) := ⟨rfl, rfl, rfl, by decide +kernel, rfl, by decide +kernel, by decide +kernel⟩

def isV : T → Bool
  | .v _ => true
  | .n _ _ => false
def vn : T → Str
  | .v x => x
  | .n _ _ => ""
theorem varsT_filter : ∀ ps : List (List Nat × T), varsT ps = (ps.filter fun p => isV p.2).map fun p => vn p.2
  | [] => rfl
  | (pl, .v x) :: ps => by
    show x :: varsT ps = _
    rw [varsT_filter ps]; rfl
  | (pl, .n x ks) :: ps => by
    show varsT ps = _
    rw [varsT_filter ps]; rfl
theorem isV_str (t : T) : (tn t.dat == "str") = isV t := by
  cases t with
  | v x => rfl
  | n x ks => rfl
theorem varsT_len (ps : List (List Nat × T)) : (varsT ps).length ≤ ps.length := by
  rw [varsT_filter, List.length_map]
  exact List.length_filter_le _ _
def varsOf (ts : List T) : List Str := ts.flatMap fun t => varsT (partsT t)
theorem varsOf_snoc {ts : List T} {i : Nat} {t : T} (h : ts[i]? = some t) : varsOf (ts.take (i + 1)) = varsOf (ts.take i) ++ varsT (partsT t) := by
  unfold varsOf
  rw [take_snoc h, List.flatMap_append]
  simp
theorem varsOf_len : ∀ (ts : List T), (varsOf ts).length ≤ T.szs ts
  | [] => Nat.le_refl _
  | t :: ts => by
    have h1 := varsT_len (partsT t)
    have h2 := varsOf_len ts
    rw [parts_len] at h1
    unfold varsOf at h2 ⊢
    rw [List.flatMap_cons, List.length_append, T.szs]
    omega
def spDVars (K : PySem.W.Frag) (n : Nat) : Sp := fun vs H Q _ => ∃ N l xs ts, vs = [.ref l] ∧ Tr N H ∧ SqL K H l xs ∧ DpAll K (hide N H) xs (ts.map T.dat) ∧ (∀ t ∈ ts, t.ht < n) ∧ T.szs ts ≤ 5000 ∧ ∀ H' p, Same H H' → H p = none → H' p = some (.lst ((onceS (varsOf ts)).map V.str)) → Q (.ref p) H'
theorem ok_d_vars (G : Glob K mg) (D : Def K mg "_law_d_variables" st__law_d_variables ["words"]) {n : Nat} (c__law_d_parts : Callee P w K mg base (n + 1) "_law_d_parts" ["word"] (spDParts K n)) (c__law_each_once : Callee P w K mg base 1 "_law_each_once" ["things"] (spOnce K)) : Callee P w K mg base (n + 2) "_law_d_variables" ["words"] (spDVars K n) := by
  obtain ⟨f, fd, F, b, m⟩ := D.ex
  have z_isinstance := G.isinstance
  have z_str := G.str
  refine ⟨f, fd, F.ok sc__law_d_variables (fun vs H Q E h => ?_) (fun cdv A outer s H vs Q E hr h => ?_), b, F.kp, m⟩
  · obtain ⟨N, l, xs, ts, rfl, _⟩ := h
    rfl
  obtain ⟨N, l, xs, ts, rfl, hN, hl, hd, hh, hz, k⟩ := h
  have hr__law_d_parts := hr
  have hr__law_each_once := hr.mono (show 1 ≤ n + 1 by omega)
  refine ⟨_, (pss_cons (ps_set (i := 1) sc__law_d_variables.nd rfl (Or.inl rfl) (pe_lst pa_nil)) (pss_cons (ps_for PassesOwn.never rfl (pi_list (pv 0)) (pg_name (i := 2) sc__law_d_variables.nd rfl (Or.inl rfl)) (pss_one (ps_expr (pe_bm PySem.F.plainAttrs_list PySem.F.slot_list_extend PySem.F.type_list_extend mt_extend (pv 1) (pa_cons (pe_lc (own := [("place", 3), ("part", 4)]) (g := (gTup K 2 (gCons (gName 3) (gCons (gName 4) gNil)))) rfl sc__law_d_variables.nd (pi_list (pe_own c__law_d_parts hr__law_d_parts rfl (pa_cons (pv 2) pa_nil))) (blkOk_by (N := ["words", "found", "word", "place", "part"]) (sc := defScope st__law_d_variables) (by decide +kernel)) (fun _ _ _ _ _ => (pg_tup rfl (pgs_cons (pg_name (i := 3) sc__law_d_variables.nd rfl (Or.inl rfl)) (pgs_cons (pg_name (i := 4) sc__law_d_variables.nd rfl (Or.inl rfl)) pgs_nil)))) (fun _ _ _ _ _ => (pts_one (pt_val (pe_callB (show CallR _ _ (rIsi K) from call_isi) rfl z_isinstance boot_isinstance (pa_cons (pv 4) (pa_cons (pe_bltn (v := .ty "str") rfl z_str boot_str rfl) pa_nil)))))) (fun _ _ _ _ _ => (pv 4))) pa_nil))))) (pss_one (ps_ret (pe_own c__law_each_once hr__law_each_once rfl (pa_cons (pv 1) pa_nil)))))), ?_⟩
  have lx : xs.length = ts.length := by have := DpAll.length hd; rw [List.length_map] at this; exact this
  walk_at "rd"
  refine ⟨by decide, fun p hp => ?_⟩
  have s0 := same_new hp (.lst [])
  refine rd_for ?_
  walk_at "rd"
  refine ⟨_, rfl, l, rfl, ⟨_, s0.seq hl⟩, ?_⟩
  refine forq (sp_list (K := K) (xs := xs)) (fun i σ' H' => ∃ u, σ' = [some (.ref l), some (.ref p), u, none, none] ∧ Same H H' ∧ H' p = some (.lst ((varsOf (ts.take i)).map V.str))) ⟨_, rfl, s0, upd_same⟩ (fun i σ' H' q => ?_) (fun i v σ' H' H'' hi q e r => ?_) (fun σ' H' q => ?_)
  · obtain ⟨_, _, s1, _⟩ := q
    exact s1.seq hl
  · obtain ⟨u, rfl, s1, h1⟩ := q
    obtain ⟨r1, rfl⟩ := r
    obtain ⟨d, hd1, hd2⟩ := DpAll.get hd r1
    rw [List.getElem?_map] at hd1
    obtain ⟨t, ht, rfl⟩ := Option.map_eq_some_iff.mp hd1
    have hm := List.mem_of_getElem? ht
    have hzt := T.sz_mem hm
    have s2 := s1.trans e
    have h2 := e _ _ h1
    have snc := varsOf_snoc ht
    have vlen := varsOf_len (ts.take (i + 1))
    have vtk := T.szs_take' ts (i + 1)
    walk_at "rd"
    refine ⟨_, rfl, .inl ⟨rfl, _, .inl (.inl h2)⟩, ?_⟩
    refine rd_lc ?_
    walk_at "rd"
    refine ⟨_, rfl, N, _, t, rfl, hN.same s2, Dp.same (hide_mono s2) hd2, hh t hm, by omega, fun H5 q ys e5 hq hy pa => ?_⟩
    refine ⟨q, rfl, ⟨_, .inl (.inl hy)⟩, ?_⟩
    have ly : ys.length = (partsT t).length := paired_len pa
    have lp := parts_len t
    have s5 := s2.trans e5
    refine lcp (K := K) (N := N) (hN.same s5) (src_list (.inl (.inl hy))) (by omega) (fun j => (fun p => isV p.2) ((partsT t).getD j ([], .v ""))) (fun j => (fun p => PyData.str (vn p.2)) ((partsT t).getD j ([], .v ""))) (fun j y H6 N6 Q2 Q3 hj e6 r6 tr6 hs6 q2 q3 => ?_) (fun Dl H6 ys6 nD e6 hy6 da => ?_)
    · obtain ⟨z, hzj, hy6⟩ := GB.paired_get (pa.same hs6) r6
      have ez : (partsT t).getD j ([], .v "") = z := by rw [List.getD_eq_getElem?_getD, hzj]; rfl
      rw [ez] at q2 q3
      obtain ⟨T, L, wv, rfl, hT, hL, dw⟩ := hy6.ex
      refine g_pair (hide_same _ _ hT) rfl ?_
      walk_at "rd"
      refine ⟨rfl, ?_⟩
      refine ⟨_, rfl, isi1 (DE.of (Dp.same hide_same dw)) (kb_str _) ⟨_, rfl, ?_⟩⟩
      rw [isV_str]
      refine ite_b (fun hc => ?_) (fun hc => q3 H6 (Same.refl _) hc)
      refine ⟨_, rfl, q2 _ H6 (Same.refl _) hc ?_⟩
      show Dp K (hide N6 H6) wv (PyData.str (vn z.2))
      cases hz2 : z.2 with
      | v x => rw [hz2] at dw; exact dw
      | n x ks => rw [hz2] at hc; cases hc
    · rw [ly] at da
      rw [filter_range_map (partsT t) (fun p => isV p.2) (fun p => PyData.str (vn p.2)) ([], .v "")] at da
      have e7 : ((partsT t).filter fun p => isV p.2).map (fun p => PyData.str (vn p.2)) = (varsT (partsT t)).map PyData.str := by rw [varsT_filter, List.map_map]; rfl
      rw [e7] at da
      have ey := DpAll.strs da
      subst ey
      have e56 := e5.trans e6
      refine ⟨p, Dl, _, _, rfl, rfl, e56 _ _ h2, hy6, ?_, ?_⟩
      · rw [List.length_map, List.length_map, sizeLine_eq]
        rw [snc, List.length_append] at vlen
        omega
      · refine ⟨_, rfl, same_upd hp (s2.trans e56) _, ?_⟩
        rw [upd_same, snc, List.map_append]
  · obtain ⟨u, rfl, s1, h1⟩ := q
    rw [lx, List.take_length] at h1
    have := varsOf_len ts
    exact ⟨_, rfl, p, varsOf ts, rfl, .inl (.inl h1), by omega, fun H5 q e5 hq hy => k H5 q (s1.trans e5) (none_of_none s1 hq) hy⟩
end
end WD

-- text: W23
set_option Elab.async false
set_option linter.all false
set_option maxRecDepth 100000
set_option maxHeartbeats 400000
namespace WD
open PySem PySem.Spec PyProof.Rows L2 GB GL
open DB hiding isi1 isiT
local macro_rules | `(tactic| walk_at "rd") => `(tactic| (dsimp only [cxOf, Cx.nox, L2.start, tRet, tRetN, tCB, tCons, tNil, tC, tVar, tTup, tLst, tB, tTest, tAnd, tOr, tNot, tAndV, tOrV, tNotV, tIfS, tIf, tSeq, tNext, tDrop, tOp, tUn, tAsg, gName, gSub, tSl, tPart, tNoPart, tCall, tPar, tBM, tChain, tYes, StX.tStar, tFld, tNotN, tIsN, tDNotIn, tDIn, tDGet, tDGet2, tDNewK, gTup, gCons, gNil, tLockE, iKeys, XR.iZipTN, sFld, sDPut, iEnum, XR.iEnumK, XR.iEnumT, iList, RZ.iZipA, iTup, iRng1, iRng2, tMake, tPar3, tRevL, XR.tTwo3, List.length_cons, List.length_nil, List.set_cons_zero, List.set_cons_succ, List.nil_append, List.cons_append, List.append_nil]))
section
variable {P : Program} {w : World} {K : PySem.W.Frag} {mg : Str → Option Value} {base : Heap}
abbrev st__law_same : Stmt := top 52
theorem sc__law_same : FnScope ["found", "due", "x", "y"] ["found", "due"] (defScope st__law_same) := ⟨rfl, rfl, rfl, by decide +kernel, rfl, by decide +kernel, by decide +kernel⟩

mutual
/-- how deep, a dict counted twice -/
def hD : PyData → Nat
  | .list ds => hDs ds + 1
  | .tuple ds => hDs ds + 1
  | .dict _ => 2
  | _ => 0
def hDs : List PyData → Nat
  | [] => 0
  | d :: ds => max (hD d) (hDs ds)
end
mutual
def okS : PyData → Bool
  | .list ds => decide (ds.length ≤ 100000) && okSs ds
  | .tuple ds => decide (ds.length ≤ 100000) && okSs ds
  | _ => true
def okSs : List PyData → Bool
  | [] => true
  | d :: ds => okS d && okSs ds
end
theorem hD_mem : ∀ {ds : List PyData} {d : PyData}, d ∈ ds → hD d ≤ hDs ds
  | [], _, h => by cases h
  | a :: ds, d, h => by
    rw [hDs]
    rcases List.mem_cons.mp h with rfl | h
    · omega
    · have := hD_mem h
      omega
theorem okS_mem : ∀ {ds : List PyData} {d : PyData}, okSs ds = true → d ∈ ds → okS d = true
  | [], _, _, h => by cases h
  | a :: ds, d, h, hm => by
    rw [okSs, Bool.and_eq_true] at h
    rcases List.mem_cons.mp hm with rfl | hm
    · exact h.1
    · exact okS_mem h.2 hm
theorem DE.flat {K : PySem.W.Frag} {H : Hp} {v v' : V} {d : PyData} (h : DE K H v d) (h' : DE K H v' d) (n : (tn d == "list" || tn d == "tuple" || tn d == "dict") = false) : v = v' ∧ scal v v = true := by
  cases h with
  | non => cases h'; exact ⟨rfl, rfl⟩
  | bl b => cases h'; exact ⟨rfl, rfl⟩
  | int i => cases h'; exact ⟨rfl, rfl⟩
  | str x => cases h'; exact ⟨rfl, rfl⟩
  | lst a b => exact absurd n (by simp [tn])
  | tup a b => exact absurd n (by simp [tn])
  | dct a => exact absurd n (by simp [tn])
def spSameT (K : PySem.W.Frag) (n : Nat) : Sp := fun vs H Q _ => ∃ v1 v2 d, vs = [v1, v2] ∧ DE K H v1 d ∧ DE K H v2 d ∧ okS d = true ∧ hD d < n ∧ ∀ H', Same H H' → Q (.bl true) H'
theorem ok_same (G : Glob K mg) (D : Def K mg "_law_same" st__law_same ["found", "due"]) : ∀ n, Callee P w K mg base (n + 1) "_law_same" ["found", "due"] (spSameT K n)
  | 0 => by
    obtain ⟨f, fd, F, b, m⟩ := D.ex
    refine ⟨f, fd, F.ok sc__law_same (fun vs H Q E h => ?_) (fun cdv A outer s H vs Q E hr h => ?_), b, F.kp, m⟩
    · obtain ⟨v1, v2, d, rfl, _⟩ := h
      rfl
    · obtain ⟨v1, v2, d, rfl, _, _, _, h, _⟩ := h
      exact absurd h (Nat.not_lt_zero _)
  | n + 1 => by
    have c__law_same := ok_same G D n
    obtain ⟨f, fd, F, b, m⟩ := D.ex
    have z_isinstance := G.isinstance
    have z_list := G.list
    have z_tuple := G.tuple
    have z_dict := G.dict
    have z_int := G.int
    have z_bool := G.bool
    have z_len := G.len
    have z_all := G.all
    have z_zip := G.zip
    refine ⟨f, fd, F.ok sc__law_same (fun vs H Q E h => ?_) (fun cdv A outer s H vs Q E hr h => ?_), b, F.kp, m⟩
    · obtain ⟨v1, v2, d, rfl, _⟩ := h
      rfl
    obtain ⟨v1, v2, d, rfl, h1, h2, ho, hh, k⟩ := h
    have hr__law_same := hr
    refine ⟨_, (pss_cons (ps_if (pt_val (pe_callB call_isiT rfl z_isinstance boot_isinstance (pa_cons (pv 1) (pa_cons (pe_tup (pa_cons (pe_bltn (v := .ty "list") rfl z_list boot_list rfl) (pa_cons (pe_bltn (v := .ty "tuple") rfl z_tuple boot_tuple rfl) pa_nil))) pa_nil)))) (pss_cons (ps_if (PW.pt (pw_or (pt_cmpR op_ne (pe_callB call_isi rfl z_isinstance boot_isinstance (pa_cons (pv 0) (pa_cons (pe_bltn (v := .ty "list") rfl z_list boot_list rfl) pa_nil))) (pe_callB call_isi rfl z_isinstance boot_isinstance (pa_cons (pv 1) (pa_cons (pe_bltn (v := .ty "list") rfl z_list boot_list rfl) pa_nil))) (nomark _)) (pw_or1 (pt_cmpR op_ne (pe_callB call_isi rfl z_isinstance boot_isinstance (pa_cons (pv 0) (pa_cons (pe_bltn (v := .ty "tuple") rfl z_tuple boot_tuple rfl) pa_nil))) (pe_callB call_isi rfl z_isinstance boot_isinstance (pa_cons (pv 1) (pa_cons (pe_bltn (v := .ty "tuple") rfl z_tuple boot_tuple rfl) pa_nil))) (nomark _))))) (pss_one (ps_ret pe_bl)) pss_nil) (pss_one (ps_ret (pe_and (pe_cmpR op_eq (pe_callB call_len_seq rfl z_len PySem.boot_len (pa_cons (pv 0) pa_nil)) (pe_callB call_len_seq rfl z_len PySem.boot_len (pa_cons (pv 1) pa_nil)) (nomark _)) (pe_one (pe_callB (cr_all rfl) rfl z_all boot_all (pa_cons (pe_lc (own := [("x", 2), ("y", 3)]) (g := (gTup K 2 (gCons (gName 2) (gCons (gName 3) gNil)))) (tt := tYes) rfl sc__law_same.nd (RZ.pi_zipA rfl z_zip (pa_cons (pv 0) (pa_cons (pv 1) pa_nil))) (blkOk_by (N := ["found", "due", "x", "y"]) (sc := defScope st__law_same) (by decide +kernel)) (fun _ _ _ _ _ => (pg_tup rfl (pgs_cons (pg_name (i := 2) sc__law_same.nd rfl (Or.inl rfl)) (pgs_cons (pg_name (i := 3) sc__law_same.nd rfl (Or.inl rfl)) pgs_nil)))) (fun _ _ _ _ _ => pts_nil) (fun _ _ _ _ _ => (pe_own c__law_same hr__law_same rfl (pa_cons (pv 2) (pa_cons (pv 3) pa_nil))))) pa_nil))))))) pss_nil) (pss_cons (ps_if (pt_val (pe_callB call_isi rfl z_isinstance boot_isinstance (pa_cons (pv 1) (pa_cons (pe_bltn (v := .ty "dict") rfl z_dict boot_dict rfl) pa_nil)))) (pss_one (ps_ret (pe_and (pe_callB call_isi rfl z_isinstance boot_isinstance (pa_cons (pv 0) (pa_cons (pe_bltn (v := .ty "dict") rfl z_dict boot_dict rfl) pa_nil))) (pe_one (pe_own c__law_same hr__law_same rfl (pa_cons (LiI.pe_listItems rfl (pv 0) rfl z_list boot_list) (pa_cons (LiI.pe_listItems rfl (pv 1) rfl z_list boot_list) pa_nil))))))) pss_nil) (pss_cons (ps_if (pt_val (pe_callB call_isi rfl z_isinstance boot_isinstance (pa_cons (pv 1) (pa_cons (pe_bltn (v := .ty "int") rfl z_int boot_int rfl) pa_nil)))) (pss_one (ps_ret (pe_and (pe_callB call_isi rfl z_isinstance boot_isinstance (pa_cons (pv 0) (pa_cons (pe_bltn (v := .ty "int") rfl z_int boot_int rfl) pa_nil))) (pe_and (pe_cmpR op_eq (pe_callB call_isi rfl z_isinstance boot_isinstance (pa_cons (pv 0) (pa_cons (pe_bltn (v := .ty "bool") rfl z_bool boot_bool rfl) pa_nil))) (pe_callB call_isi rfl z_isinstance boot_isinstance (pa_cons (pv 1) (pa_cons (pe_bltn (v := .ty "bool") rfl z_bool boot_bool rfl) pa_nil))) (nomark _)) (pe_one (pe_cmpR op_eq (pv 0) (pv 1) (nomark _))))))) pss_nil) (pss_one (ps_ret (pe_and (pe_not (pe_callB call_isiT rfl z_isinstance boot_isinstance (pa_cons (pv 0) (pa_cons (pe_tup (pa_cons (pe_bltn (v := .ty "int") rfl z_int boot_int rfl) (pa_cons (pe_bltn (v := .ty "list") rfl z_list boot_list rfl) (pa_cons (pe_bltn (v := .ty "tuple") rfl z_tuple boot_tuple rfl) (pa_cons (pe_bltn (v := .ty "dict") rfl z_dict boot_dict rfl) pa_nil))))) pa_nil)))) (pe_one (pe_cmpR op_eq (pv 0) (pv 1) (nomark _))))))))), ?_⟩
    by_cases hs : (tn d == "list" || tn d == "tuple") = true
    · obtain ⟨a, b, xs, ys, ds, rfl, rfl, hsq, hx, hy, hl, ho2, hh2⟩ : ∃ a b xs ys ds, v1 = .ref a ∧ v2 = .ref b ∧ (∀ H', Same H H' → (SqL K H' a xs ∧ SqL K H' b ys) ∨ (SqT K H' a xs ∧ SqT K H' b ys)) ∧ DEs K H xs ds ∧ DEs K H ys ds ∧ ds.length ≤ 100000 ∧ okSs ds = true ∧ hDs ds < n := by
        cases h1 with
        | lst a1 a2 =>
          cases h2 with
          | lst b1 b2 =>
            rw [okS, Bool.and_eq_true] at ho
            rw [hD] at hh
            exact ⟨_, _, _, _, _, rfl, rfl, fun H' e => .inl ⟨e.seq a1, e.seq b1⟩, a2, b2, of_decide_eq_true ho.1, ho.2, by omega⟩
        | tup a1 a2 =>
          cases h2 with
          | tup b1 b2 =>
            rw [okS, Bool.and_eq_true] at ho
            rw [hD] at hh
            exact ⟨_, _, _, _, _, rfl, rfl, fun H' e => .inr ⟨Same.tupL e a1, Same.tupL e b1⟩, a2, b2, of_decide_eq_true ho.1, ho.2, by omega⟩
        | _ => exact absurd hs (by simp [tn])
      have lx := hx.length
      have ly := hy.length
      refine q_when true (fun Q1 q1 => ?_) (fun _ H1 e1 => ?_) (fun hb => nomatch hb)
      · walk_at "rd"
        refine ⟨_, rfl, by decide, fun p hp => isiT (cs := ["list", "tuple"]) (DE.same (same_new hp _) h2) upd_same (kb_lt d) ⟨_, rfl, ?_⟩⟩
        rw [hs]
        exact q1 _ (same_new hp _)
      refine q_when false (fun Q1 q1 => ?_) (fun hb => nomatch hb) (fun _ H2 e2 => ?_)
      · walk_at "rd"
        refine ⟨_, rfl, isi1 (DE.same e1 h1) (kb_list _) ⟨_, rfl, isi1 (DE.same e1 h2) (kb_list _) ⟨rfl, _, rfl, ?_⟩⟩⟩
        rw [show decide (V.bl (tn d == "list") = V.bl (tn d == "list")) = true from decide_eq_true rfl]
        refine iteF ?_
        refine ⟨_, rfl, isi1 (DE.same e1 h1) (kb_tuple _) ⟨_, rfl, isi1 (DE.same e1 h2) (kb_tuple _) ⟨rfl, _, rfl, ?_⟩⟩⟩
        rw [show decide (V.bl (tn d == "tuple") = V.bl (tn d == "tuple")) = true from decide_eq_true rfl]
        exact q1 _ (Same.refl _)
      have s2 := e1.trans e2
      walk_at "rd"
      refine ⟨_, rfl, a, xs, rfl, (hsq H2 s2).elim (fun q => .inl q.1) (fun q => .inr q.1), _, rfl, b, ys, rfl, (hsq H2 s2).elim (fun q => .inl q.2) (fun q => .inr q.2), rfl, _, rfl, ?_⟩
      rw [show decide (V.int (xs.length : Nat) = V.int (ys.length : Nat)) = true from decide_eq_true (by rw [lx, ly])]
      refine iteT ?_
      refine rd_lc ?_
      walk_at "rd"
      have fin : ∀ H3 zs, DpAll K (hide no0 H3) zs (((List.range xs.length).filter fun _ => true).map fun _ => PyData.bool true) → ∃ bs : List Bool, zs = bs.map V.bl ∧ (bs.all id) = true := fun H3 zs dz => by
        have e5 : ((List.range xs.length).filter fun _ => true).map (fun _ => PyData.bool true) = ((List.replicate (((List.range xs.length).filter fun _ => true)).length true)).map PyData.bool := by
          rw [List.map_const', List.map_replicate]
        rw [e5] at dz
        exact ⟨_, DpAll.bls dz, by simp⟩
      rcases hsq H2 s2 with ⟨q1, q2⟩ | ⟨q1, q2⟩
      · refine ⟨_, rfl, _, rfl, a, b, xs, ys, rfl, .inl ⟨q1, q2, ?_⟩⟩
        refine lcp (K := K) (N := no0) (tr0 _) (src_zipL q1 q2 (by omega)) (by omega) (fun _ => true) (fun i => PyData.bool true) (fun i y H' N' Q2 Q3 hi e r tr hs' q2 q3 => ?_) (fun Dl H3 zs nD e3 hz dz => ?_)
        · obtain ⟨A, u, v, rfl, hT, r1, r2⟩ := r
          refine g_pair hT rfl ?_
          obtain ⟨d1, hd1, hu⟩ := hx.get r1
          obtain ⟨d2, hd2, hv⟩ := hy.get r2
          rw [hd1] at hd2
          cases hd2
          have hm := List.mem_of_getElem? hd1
          have hdl := hD_mem hm
          have s3 := s2.trans e
          walk_at "rd"
          exact ⟨rfl, iteT ⟨_, rfl, _, rfl, u, v, d1, rfl, DE.same s3 hu, DE.same s3 hv, okS_mem ho2 hm, by omega, fun H5 e5 => q2 _ _ e5 rfl (.bl true)⟩⟩
        · obtain ⟨bs, rfl, hb⟩ := fin H3 zs dz
          refine ⟨Dl, bs, rfl, .inl (.inl hz), ?_⟩
          have := k _ (s2.trans e3)
          rw [hb]
          exact this
      · refine ⟨_, rfl, _, rfl, a, b, xs, ys, rfl, .inr ⟨q1, q2, ?_⟩⟩
        refine lcp (K := K) (N := no0) (tr0 _) (src_zipT q1 q2 (by omega)) (by omega) (fun _ => true) (fun i => PyData.bool true) (fun i y H' N' Q2 Q3 hi e r tr hs' q2 q3 => ?_) (fun Dl H3 zs nD e3 hz dz => ?_)
        · obtain ⟨A, u, v, rfl, hT, r1, r2⟩ := r
          refine g_pair hT rfl ?_
          obtain ⟨d1, hd1, hu⟩ := hx.get r1
          obtain ⟨d2, hd2, hv⟩ := hy.get r2
          rw [hd1] at hd2
          cases hd2
          have hm := List.mem_of_getElem? hd1
          have hdl := hD_mem hm
          have s3 := s2.trans e
          walk_at "rd"
          exact ⟨rfl, iteT ⟨_, rfl, _, rfl, u, v, d1, rfl, DE.same s3 hu, DE.same s3 hv, okS_mem ho2 hm, by omega, fun H5 e5 => q2 _ _ e5 rfl (.bl true)⟩⟩
        · obtain ⟨bs, rfl, hb⟩ := fin H3 zs dz
          refine ⟨Dl, bs, rfl, .inl (.inl hz), ?_⟩
          have := k _ (s2.trans e3)
          rw [hb]
          exact this
    have hs : (tn d == "list" || tn d == "tuple") = false := by simpa using hs
    refine q_when false (fun Q1 q1 => ?_) (fun hb => nomatch hb) (fun _ H1 e1 => ?_)
    · walk_at "rd"
      refine ⟨_, rfl, by decide, fun p hp => isiT (cs := ["list", "tuple"]) (DE.same (same_new hp _) h2) upd_same (kb_lt d) ⟨_, rfl, ?_⟩⟩
      rw [hs]
      exact q1 _ (same_new hp _)
    by_cases hdc : (tn d == "dict") = true
    · obtain ⟨a, b, rfl, rfl, ha, hb, hn2⟩ : ∃ a b, v1 = .ref a ∧ v2 = .ref b ∧ H a = some (.dK []) ∧ H b = some (.dK []) ∧ 2 < n + 1 := by
        cases h1 with
        | dct a1 =>
          cases h2 with
          | dct b1 => exact ⟨_, _, rfl, rfl, a1, b1, hh⟩
        | _ => exact absurd hdc (by simp [tn])
      refine q_when true (fun Q1 q1 => ?_) (fun _ H2 e2 => ?_) (fun hb => nomatch hb)
      · walk_at "rd"
        refine ⟨_, rfl, isi1 (DE.same e1 h2) (kb_dict _) ⟨_, rfl, ?_⟩⟩
        rw [hdc]
        exact q1 _ (Same.refl _)
      have s2 := e1.trans e2
      walk_at "rd"
      refine ⟨_, rfl, isi1 (DE.same s2 h1) (kb_dict _) ⟨_, rfl, ?_⟩⟩
      rw [hdc]
      refine iteT ?_
      refine ⟨_, rfl, a, [], rfl, s2 _ _ ha, fun H3 p1 ts1 e3 n1 _ _ hp1 pr1 => ?_⟩
      cases pr1
      have e3' : Same H2 H3 := e3
      refine ⟨_, rfl, b, [], rfl, e3 _ _ (s2 _ _ hb), fun H4 p2 ts2 e4 n2 _ _ hp2 pr2 => ?_⟩
      cases pr2
      have e4' : Same H3 H4 := e4
      exact ⟨_, _, .list [], rfl, .lst (.inl (.inl (e4 _ _ hp1))) .nil, .lst (.inl (.inl hp2)) .nil, rfl, by rw [hD, hDs]; omega, fun H' e => k H' (((s2.trans e3').trans e4').trans e)⟩
    have hdc : (tn d == "dict") = false := by simpa using hdc
    refine q_when false (fun Q1 q1 => ?_) (fun hb => nomatch hb) (fun _ H2 e2 => ?_)
    · walk_at "rd"
      refine ⟨_, rfl, isi1 (DE.same e1 h2) (kb_dict _) ⟨_, rfl, ?_⟩⟩
      rw [hdc]
      exact q1 _ (Same.refl _)
    have s2 := e1.trans e2
    obtain ⟨rfl, hfl⟩ := DE.flat h1 h2 (by rw [hs, hdc]; rfl)
    have k2 : ∀ H', Same H H' → Q (.bl (decide (v1 = v1))) H' := fun H' e => by rw [decide_eq_true rfl]; exact k H' e
    by_cases hin : (tn d == "int" || tn d == "bool") = true
    · refine q_when true (fun Q1 q1 => ?_) (fun _ H3 e3 => ?_) (fun hb => nomatch hb)
      · walk_at "rd"
        refine ⟨_, rfl, isi1 (DE.same s2 h2) (kb_int _) ⟨_, rfl, ?_⟩⟩
        rw [hin]
        exact q1 _ (Same.refl _)
      have s3 := s2.trans e3
      walk_at "rd"
      refine ⟨_, rfl, isi1 (DE.same s3 h1) (kb_int _) ⟨_, rfl, ?_⟩⟩
      rw [hin]
      refine iteT ?_
      refine ⟨_, rfl, isi1 (DE.same s3 h1) (kb_bool _) ⟨_, rfl, isi1 (DE.same s3 h1) (kb_bool _) ⟨rfl, _, rfl, ?_⟩⟩⟩
      rw [show decide (V.bl (tn d == "bool") = V.bl (tn d == "bool")) = true from decide_eq_true rfl]
      refine iteT ?_
      exact ⟨_, rfl, _, rfl, hfl, k2 _ s3⟩
    · have hin : (tn d == "int" || tn d == "bool") = false := by simpa using hin
      refine q_when false (fun Q1 q1 => ?_) (fun hb => nomatch hb) (fun _ H3 e3 => ?_)
      · walk_at "rd"
        refine ⟨_, rfl, isi1 (DE.same s2 h2) (kb_int _) ⟨_, rfl, ?_⟩⟩
        rw [hin]
        exact q1 _ (Same.refl _)
      have s3 := s2.trans e3
      walk_at "rd"
      refine ⟨_, rfl, by decide, fun p hp => isiT (cs := ["int", "list", "tuple", "dict"]) (DE.same (s3.trans (same_new hp _)) h1) upd_same (kb_iltd d) ⟨_, rfl, _, rfl, ?_⟩⟩
      have e9 : (!(tn d == "int" || tn d == "bool" || tn d == "list" || tn d == "tuple" || tn d == "dict")) = true := by
        rw [hin, Bool.false_or]
        rw [Bool.or_eq_false_iff] at hs
        rw [hs.1, hs.2, hdc]
        rfl
      rw [e9]
      refine iteT ?_
      exact ⟨_, rfl, _, rfl, hfl, k2 _ (s3.trans (same_new hp _))⟩
end
end WD

-- text: W24
set_option Elab.async false
set_option linter.all false
set_option maxRecDepth 100000
set_option maxHeartbeats 400000
namespace WD
open PySem PySem.Spec PyProof.Rows L2 GB GL
open DB hiding isi1 isiT
local macro_rules | `(tactic| walk_at "rd") => `(tactic| (dsimp only [cxOf, Cx.nox, L2.start, tRet, tRetN, tCB, tCons, tNil, tC, tVar, tTup, tLst, tB, tTest, tAnd, tOr, tNot, tAndV, tOrV, tNotV, tIfS, tIf, tSeq, tNext, tDrop, tOp, tUn, tAsg, gName, gSub, tSl, tPart, tNoPart, tCall, tPar, tBM, tChain, tYes, StX.tStar, tFld, tNotN, tIsN, tDNotIn, tDIn, tDGet, tDGet2, tDNewK, gTup, gCons, gNil, tLockE, iKeys, XR.iZipTN, sFld, sDPut, iEnum, XR.iEnumK, XR.iEnumT, iList, RZ.iZipA, iTup, iRng1, iRng2, tMake, tPar3, tRevL, XR.tTwo3, List.length_cons, List.length_nil, List.set_cons_zero, List.set_cons_succ, List.nil_append, List.cons_append, List.append_nil]))
section
variable {P : Program} {w : World} {K : PySem.W.Frag} {mg : Str → Option Value} {base : Heap}
abbrev st__law_d_word : Stmt := top 42
theorem sc__law_d_word : FnScope ["stream", "level", "variables", "kind", "many", "k"] ["stream", "level", "variables"] (defScope st__law_d_word) := ⟨rfl, rfl, rfl, by decide +kernel, rfl, by decide +kernel, by decide +kernel⟩

def dr : Nat → Nat
  | 0 => 2
  | L + 1 => 3 * dr L + 2
def szB : Nat → Nat
  | 0 => 1
  | L + 1 => 3 * szB L + 1
theorem dr_pos : ∀ L, 2 ≤ dr L
  | 0 => Nat.le_refl _
  | L + 1 => by rw [dr]; omega
theorem szB_pos : ∀ L, 1 ≤ szB L
  | 0 => Nat.le_refl _
  | L + 1 => by rw [szB]; omega
def spDWord (K : PySem.W.Frag) (n : Nat) : Sp := fun vs H Q _ => ∃ (N : Addr → Prop) (s c l : Addr) (xs : List Str) (n0 L : Nat), vs = [.ref s, .int (L : Nat), .ref l] ∧ L < n ∧ (∀ a, two s c a → N a) ∧ Tr N H ∧ Stm s c H n0 ∧ n0 + dr L < 1000000 ∧ SqL K (hide N H) l (xs.map V.str) ∧ (∀ x ∈ xs, x ∈ vrL) ∧ xs.length ≤ 4 ∧
  ∀ t v H', wOk t = true → t.sz ≤ szB L → t.ht ≤ L + 1 → Kept (two s c) H H' → Stm s c H' (n0 + dr L) → Dp K (hide N H') v (T.dat t) → Q v H'
theorem fgh {m : Int} (h0 : 1 ≤ m) (h1 : m ≤ 3) : ∃ x, x ∈ nmL ∧ atI [V.str "f", V.str "g", V.str "h"] (m + -1) = some (.str x) ∧ atI [V.str "f", V.str "g", V.str "h"] (m - 1) = some (.str x) := by
  have : m = 1 ∨ m = 2 ∨ m = 3 := by omega
  rcases this with rfl | rfl | rfl
  · exact ⟨"f", by decide +kernel, rfl, rfl⟩
  · exact ⟨"g", by decide +kernel, rfl, rfl⟩
  · exact ⟨"h", by decide +kernel, rfl, rfl⟩
theorem mny {m : Int} (h0 : 3 ≤ m) (h1 : m < 8) : ∃ x : Nat, 1 ≤ x ∧ x ≤ 3 ∧ atI [V.int 1, V.int 1, V.int 2, V.int 2, V.int 3] (m - 3) = some (.int (x : Nat)) := by
  have : m = 3 ∨ m = 4 ∨ m = 5 ∨ m = 6 ∨ m = 7 := by omega
  rcases this with rfl | rfl | rfl | rfl | rfl
  · exact ⟨1, by decide, by decide, rfl⟩
  · exact ⟨1, by decide, by decide, rfl⟩
  · exact ⟨2, by decide, by decide, rfl⟩
  · exact ⟨2, by decide, by decide, rfl⟩
  · exact ⟨3, by decide, by decide, rfl⟩
theorem exists_list {R : T → Prop} : ∀ (dl : List PyData), (∀ (i : Nat) d, dl[i]? = some d → ∃ t : T, d = t.dat ∧ R t) → ∃ ts : List T, dl = ts.map T.dat ∧ ∀ t ∈ ts, R t
  | [], _ => ⟨[], rfl, fun t h => nomatch h⟩
  | d :: dl, h => by
    obtain ⟨t, rfl, ht⟩ := h 0 d rfl
    obtain ⟨ts, rfl, hts⟩ := exists_list dl fun i d' hd => h (i + 1) d' (by simpa using hd)
    refine ⟨t :: ts, rfl, fun u hu => ?_⟩
    rcases List.mem_cons.mp hu with rfl | hu
    · exact ht
    · exact hts u hu
theorem szs_all {B : Nat} : ∀ ts : List T, (∀ t ∈ ts, t.sz ≤ B) → T.szs ts ≤ ts.length * B
  | [], _ => Nat.zero_le _
  | t :: ts, h => by
    have h1 := h t (List.mem_cons_self ..)
    have h2 := szs_all ts fun u hu => h u (List.mem_cons_of_mem _ hu)
    rw [T.szs, List.length_cons, Nat.add_mul, Nat.one_mul]
    omega
theorem hts_all {B : Nat} : ∀ ts : List T, (∀ t ∈ ts, t.ht ≤ B) → T.hts ts ≤ B
  | [], _ => Nat.zero_le _
  | t :: ts, h => by
    have h1 := h t (List.mem_cons_self ..)
    have h2 := hts_all ts fun u hu => h u (List.mem_cons_of_mem _ hu)
    rw [T.hts]
    omega
theorem ok_d_word (G : Glob K mg) (D : Def K mg "_law_d_word" st__law_d_word ["stream", "level", "variables"]) (c__law_draw : Callee P w K mg base 1 "_law_draw" ["stream", "many"] spDraw) (c__law_pick : Callee P w K mg base 2 "_law_pick" ["stream", "some"] (spPick K)) : ∀ n, Callee P w K mg base (n + 2) "_law_d_word" ["stream", "level", "variables"] (spDWord K n)
  | 0 => by
    obtain ⟨f, fd, F, b, m⟩ := D.ex
    refine ⟨f, fd, F.ok sc__law_d_word (fun vs H Q E h => ?_) (fun cdv A outer s H vs Q E hr h => ?_), b, F.kp, m⟩
    · obtain ⟨N, s, c, l, xs, n0, L, rfl, _⟩ := h
      rfl
    · obtain ⟨N, s, c, l, xs, n0, L, rfl, h, _⟩ := h
      exact absurd h (Nat.not_lt_zero _)
  | n + 1 => by
    have c__law_d_word := ok_d_word G D c__law_draw c__law_pick n
    obtain ⟨f, fd, F, b, m⟩ := D.ex
    have z_list := G.list
    have z_tuple := G.tuple
    have z_min := G.min
    have z_len := G.len
    have z_range := G.range
    refine ⟨f, fd, F.ok sc__law_d_word (fun vs H Q E h => ?_) (fun cdv A outer s_ H vs Q E hr h => ?_), b, F.kp, m⟩
    · obtain ⟨N, s, c, l, xs, n0, L, rfl, _⟩ := h
      rfl
    obtain ⟨N, s, c, l, xs, n0, L, rfl, hL, hM, hN, hst, hb, hl, hxs, hxl, k⟩ := h
    have hr__law_d_word := hr
    have hr__law_draw := hr.mono (show 1 ≤ n + 2 by omega)
    have hr__law_pick := hr.mono (show 2 ≤ n + 2 by omega)
    refine ⟨_, (pss_cons (ps_set (i := 3) sc__law_d_word.nd rfl (Or.inl rfl) (pe_own c__law_draw hr__law_draw rfl (pa_cons (pv 0) (pa_cons pe_int pa_nil)))) (pss_cons (ps_if (PW.pt (pw_or (pt_cmpR op_eq (pv 1) pe_int (nomark _)) (pw_or1 (pt_cmpR op_lt (pv 3) pe_int (nomark _))))) (pss_one (ps_ret (pe_own c__law_pick hr__law_pick rfl (pa_cons (pv 0) (pa_cons (pe_op op_cat (pe_op op_cat (pe_callTy call_list_of rfl z_list boot_list (pa_cons (pv 2) pa_nil)) (pe_lst (pa_cons (pe_tup (pa_cons pe_str pa_nil)) (pa_cons (pe_tup (pa_cons pe_str pa_nil)) pa_nil)))) (pe_op op_rep (pe_lst (pa_cons (pe_tup (pa_cons pe_str pa_nil)) pa_nil)) (pe_op op_sub pe_int (pe_callB (call_min2 rfl) rfl z_min (by decide +kernel) (pa_cons pe_int (pa_cons (pe_callB call_len_seq rfl z_len PySem.boot_len (pa_cons (pv 2) pa_nil)) pa_nil)))))) pa_nil))))) pss_nil) (pss_cons (ps_set (i := 4) sc__law_d_word.nd rfl (Or.inl rfl) (pe_ix ix_list (pe_lst (pa_cons pe_int (pa_cons pe_int (pa_cons pe_int (pa_cons pe_int (pa_cons pe_int pa_nil)))))) (pe_op op_sub (pv 3) pe_int) (fun _ _ => rfl))) (pss_one (ps_ret (pe_op op_catA (pe_tup (pa_cons (pe_ix ix_list (pe_lst (pa_cons pe_str (pa_cons pe_str (pa_cons pe_str pa_nil)))) (pe_op op_sub (pv 4) pe_int) (fun _ _ => rfl)) pa_nil)) (pe_callTy call_tuple_of rfl z_tuple boot_tuple (pa_cons (pe_lc (own := [("k", 5)]) (g := (gName 5)) (tt := tYes) rfl sc__law_d_word.nd (pi_range1 rfl z_range (pa_cons (pv 4) pa_nil)) (blkOk_by (N := ["stream", "level", "variables", "kind", "many", "k"]) (sc := defScope st__law_d_word) (by decide +kernel)) (fun _ _ _ _ _ => (pg_name (i := 5) sc__law_d_word.nd rfl (Or.inl rfl))) (fun _ _ _ _ _ => pts_nil) (fun _ _ _ _ _ => (pe_own c__law_d_word hr__law_d_word rfl (pa_cons (pv 0) (pa_cons (pe_op op_sub (pv 1) pe_int) (pa_cons (pv 2) pa_nil)))))) pa_nil)))))))), ?_⟩
    have dp := dr_pos L
    refine q_seq (fun σ' H' => ∃ kd : Int, σ' = [some (.ref s), some (.int (L : Nat)), some (.ref l), some (.int kd), none, none] ∧ 0 ≤ kd ∧ kd < 8 ∧ Kept (two s c) H H' ∧ Stm s c H' (n0 + 1)) (fun Z z => ?_) (fun σ2 H2 hp2 => ?_)
    · walk_at "rd"
      exact ⟨_, rfl, s, c, 8, n0, rfl, hst, by omega, by decide, by decide, fun r H' r0 r1 kp st => z _ _ ⟨r, rfl, r0, r1, kp, st⟩⟩
    obtain ⟨kd, rfl, kd0, kd1, k2, st2⟩ := hp2
    have hN2 : Tr N H2 := k2.tr hN st2.tr
    have hl2 : SqL K (hide N H2) l (xs.map V.str) := Same.seq (k2.sub hM) hl
    refine q_when (decide (L = 0) || decide (kd < 3)) (fun Q1 q1 => ?_) (fun hb1 H3 e3 => ?_) (fun hb1 H3 e3 => ?_)
    · walk_at "rd"
      refine ⟨_, rfl, rfl, _, rfl, ?_⟩
      rw [dec_int]
      refine ite_b (fun e => ?_) (fun e => ?_)
      · have e0 : (L : Int) = 0 := eq_of_beq e
        have : decide (L = 0) = true := decide_eq_true (by omega)
        have q2 := q1 _ (Same.refl H2)
        rw [this, Bool.true_or] at q2
        exact q2
      · have e0 : ¬ (L : Int) = 0 := fun q => by rw [q] at e; cases e
        have : decide (L = 0) = false := decide_eq_false (by omega)
        have q2 := q1 _ (Same.refl H2)
        rw [this, Bool.false_or] at q2
        exact ⟨_, rfl, _, _, rfl, rfl, _, rfl, q2⟩
    · have hN3 := hN2.same e3
      have hl3 : SqL K (hide N H3) l (xs.map V.str) := Same.seq (hide_mono e3) hl2
      have st3 := st2.same e3
      have xl : (xs.map V.str).length = xs.length := List.length_map ..
      walk_at "rd"
      refine ⟨_, rfl, _, rfl, l, _, rfl, .inl (Same.seq hide_same hl3), fun d1 h1 => ?_⟩
      have s1 := same_new h1 (.lst (xs.map V.str))
      refine ⟨by decide, fun p1 g1 => ⟨by decide, fun p2 g2 => ⟨by decide, fun d2 h2 => ?_⟩⟩⟩
      have t1 := same_new g1 (.tup [.str "a"])
      have t2 := same_new g2 (.tup [.str "b"])
      have s2 := same_new h2 (.lst [.ref p1, .ref p2])
      have a1 := s1.trans t1
      have a2 := a1.trans t2
      have a3 := a2.trans s2
      refine ⟨d1, d2, _, _, rfl, rfl, ((t1.trans t2).trans s2) _ _ upd_same, upd_same, by rw [xl, sizeLine_eq]; simp; omega, fun d3 h3 => ?_⟩
      have s3 := same_new h3 (.lst (xs.map V.str ++ [.ref p1, .ref p2]))
      have a4 := a3.trans s3
      refine ⟨by decide, fun p3 g3 => ⟨by decide, fun d4 h4 => ?_⟩⟩
      have t3 := same_new g3 (.tup [.str "c"])
      have s4 := same_new h4 (.lst [.ref p3])
      have a5 := a4.trans t3
      have a6 := a5.trans s4
      refine ⟨_, rfl, l, _, rfl, .inl (Same.seq (hide_same.trans a6) hl3), _, _, rfl, _, _, rfl, rfl, d4, _, _, rfl, rfl, upd_same, ?_, ?_, ?_, fun d5 h5 => ?_⟩
      · split <;> omega
      · split <;> omega
      · rw [sizeLine_eq]
        simp
        split <;> omega
      generalize hkk : (1 - if ((xs.map V.str).length : Int) < 1 then ((xs.map V.str).length : Int) else 1).toNat = kk at h5 ⊢
      have hk1 : kk ≤ 1 := by rw [← hkk]; split <;> omega
      have s5 := same_new h5 (.lst (List.replicate kk [V.ref p3]).flatten)
      have a7 := a6.trans s5
      refine ⟨d3, d5, _, _, rfl, rfl, ((t3.trans s4).trans s5) _ _ upd_same, upd_same, ?_, fun d6 h6 => ?_⟩
      · rw [List.length_append, xl, sizeLine_eq]
        simp
        omega
      have s6 := same_new h6 (.lst ((xs.map V.str ++ [.ref p1, .ref p2]) ++ (List.replicate kk [V.ref p3]).flatten))
      have a8 := a7.trans s6
      have N8 := hN3.same a8
      have off : ∀ {p H'}, Same H3 H' → H' p = none → ¬ N p := fun e h => (hN3.same e).off h
      refine ⟨s, c, d6, _, n0 + 1, rfl, st3.same a8, by omega, fun q => off a7 h6 (hM _ q), upd_same, ?_, ?_, fun r x H9 hr1 k9 st9 => ?_⟩
      · simp
        omega
      · simp
        omega
      have kk9 : Kept (two s c) H H9 := (k2.same (e3.trans a8)).trans k9
      have stF : Stm s c H9 (n0 + dr L) := st9.mono (by omega)
      have hz1 := szB_pos L
      have inp : ∀ {p : Addr} {nm : Str}, ¬ N p → upd _ d6 _ p = some (.tup [.str nm]) → Dp K (hide N H9) (.ref p) (T.dat (.n nm [])) := fun {p nm} np hp => .tup (.inl (.inl ((hide_off np).trans (k9.at (fun q => np (hM _ q)) hp)))) (.cons (.str nm) .nil)
      have mem := List.mem_of_getElem? hr1
      rcases List.mem_append.mp mem with m1 | m1
      · rcases List.mem_append.mp m1 with m2 | m2
        · obtain ⟨y, hy, rfl⟩ := List.mem_map.mp m2
          exact k (.v y) _ H9 (by rw [wOk]; exact decide_eq_true (hxs y hy)) hz1 (Nat.zero_le _) kk9 stF (.str y)
        · rcases List.mem_cons.mp m2 with rfl | m2
          · exact k (.n "a" []) _ H9 (by decide +kernel) hz1 (by rw [T.ht, T.hts]; omega) kk9 stF (inp (off s1 g1) ((((((t2.trans s2).trans s3).trans t3).trans s4).trans s5).trans s6 _ _ upd_same))
          · rw [List.mem_singleton] at m2
            subst m2
            exact k (.n "b" []) _ H9 (by decide +kernel) hz1 (by rw [T.ht, T.hts]; omega) kk9 stF (inp (off a1 g2) (((((s2.trans s3).trans t3).trans s4).trans s5).trans s6 _ _ upd_same))
      · have e : x = .ref p3 := by
          obtain ⟨q, hq, hx⟩ := List.mem_flatten.mp m1
          rw [(List.mem_replicate.mp hq).2, List.mem_singleton] at hx
          exact hx
        subst e
        exact k (.n "c" []) _ H9 (by decide +kernel) hz1 (by rw [T.ht, T.hts]; omega) kk9 stF (inp (off a4 g3) ((s4.trans s5).trans s6 _ _ upd_same))
    · rw [Bool.or_eq_false_iff] at hb1
      have hL0 : ¬ L = 0 := of_decide_eq_false hb1.1
      have hk3 : ¬ kd < 3 := of_decide_eq_false hb1.2
      obtain ⟨M, rfl⟩ : ∃ M, L = M + 1 := ⟨L - 1, by omega⟩
      obtain ⟨mn, mn1, mn3, hmn⟩ := mny (m := kd) (by omega) kd1
      obtain ⟨nm, hnm, _, hat⟩ := fgh (m := (mn : Nat)) (by omega) (by omega)
      have st3 := st2.same e3
      rw [dr] at hb
      refine q_seq (fun σ' H' => σ' = [some (.ref s), some (.int ((M + 1 : Nat) : Int)), some (.ref l), some (.int kd), some (.int (mn : Nat)), none] ∧ Same H3 H') (fun Z z => ?_) (fun σ4 H4 hp4 => ?_)
      · walk_at "rd"
        exact ⟨by decide, fun q hq => ⟨_, rfl, _, _, rfl, rfl, q, _, _, _, rfl, rfl, .inl (.inl upd_same), hmn, z _ _ ⟨rfl, same_new hq _⟩⟩⟩
      obtain ⟨rfl, e4⟩ := hp4
      walk_at "rd"
      refine ⟨by decide, fun q1 hq1 => ⟨_, rfl, _, _, rfl, rfl, q1, _, _, _, rfl, rfl, .inl (.inl upd_same), hat, by decide, fun q2 hq2 => ?_⟩⟩
      have t1 := same_new hq1 (.lst [.str "f", .str "g", .str "h"])
      have t2 := same_new hq2 (.tup [.str nm])
      have a1 := (e3.trans e4).trans t1
      have a2 := a1.trans t2
      have N2 := hN2.same a2
      have nq2 : ¬ N q2 := (hN2.same a1).off hq2
      have st4 := st2.same a2
      refine rd_lc ?_
      walk_at "rd"
      refine ⟨_, rfl, _, rfl, by omega, by omega, ?_⟩
      rw [show ((mn : Nat) : Int).toNat = mn from Int.toNat_natCast _]
      refine lck (K := K) (St := fun _ => True) (N := N) (M := two s c) (sp_range (lo := 0)) (by omega) hM N2 (fun i H' => Stm s c H' (n0 + 1 + i * dr M)) (st4.mono (Nat.le_add_right _ _)) (fun i H1 H2 q e => q.same e) (fun i H1 D o q nD => q.upd nD) (fun i H1 q => q.tr) (fun _ _ => trivial)
        (fun i d => ∃ t : T, d = t.dat ∧ (wOk t = true ∧ t.sz ≤ szB M ∧ t.ht ≤ M + 1)) (fun i y Hq Hr N7 Q2 Q3 hi k7 st7 e7 r7 tr7 nn7 hs7 q2' => ?_) (fun Dl H5 ys dl hDl nDl k7 st7 hy7 da hlen hok => ?_)
      · obtain ⟨rfl, rfl⟩ := r7
        have hi2 : i ≤ 2 := by omega
        have him : i * dr M ≤ 2 * dr M := Nat.mul_le_mul_right _ hi2
        walk_at "rd"
        refine ⟨rfl, iteT ?_⟩
        refine ⟨_, rfl, _, rfl, _, _, rfl, rfl, _, rfl, N7, s, c, l, xs, _, M, ?_, by omega, fun a q => nn7 a (hM a q), tr7, st7.same e7, by omega, Same.seq ((hide_mono a2).trans hs7) hl2, hxs, hxl, fun t v H' w1 w2 w3 kp st dp => ?_⟩
        · show [V.ref s, V.int (((M + 1 : Nat) : Int) - 1), V.ref l] = _
          rw [show (((M + 1 : Nat) : Int) - 1) = ((M : Nat) : Int) by omega]
        · refine q2' v H' t.dat kp ?_ ⟨t, rfl, w1, w2, w3⟩ dp
          have e : n0 + 1 + i * dr M + dr M = n0 + 1 + (i + 1) * dr M := by rw [Nat.add_mul, Nat.one_mul, Nat.add_assoc]
          rw [← e]
          exact st
      · obtain ⟨ts, rfl, hts⟩ := exists_list dl hok
        rw [List.length_map] at hlen
        have mm : mn * dr M ≤ 3 * dr M := Nat.mul_le_mul_right _ mn3
        have kA : Kept (two s c) H H5 := (k2.same a2).trans k7
        have hN5 : Tr N H5 := kA.tr hN st7.tr
        have stF : Stm s c H5 (n0 + dr (M + 1)) := st7.mono (by rw [dr]; omega)
        have yl : ys.length = ts.length := by have := DpAll.length da; rw [List.length_map] at this; exact this
        refine ⟨Dl, ys, rfl, .inl ⟨.inl (.inl hy7), fun p5 hp5 => ?_⟩⟩
        have s5 := same_new hp5 (.tup ys)
        have hq5 : SqT K (hide N H5) q2 [.str nm] := .inl (.inl ((hide_off nq2).trans (k7.at (fun q => nq2 (hM _ q)) upd_same)))
        refine catN (hN5.same s5) (Same.tupL (hide_mono s5) hq5) (.inl (.inl upd_same)) (by simp) (by simp; omega) fun p6 H6 e6 h6 => ?_
        have s6 := s5.trans e6
        have hsz := szs_all (B := szB M) ts fun t ht => (hts t ht).2.1
        have hht := hts_all (B := M + 1) ts fun t ht => (hts t ht).2.2
        have h3 : ts.length * szB M ≤ 3 * szB M := Nat.mul_le_mul_right _ (by omega)
        refine k (.n nm ts) _ H6 ?_ ?_ ?_ (kA.same s6) (stF.same s6) ?_
        · rw [wOk, decide_eq_true hnm, decide_eq_true (show ts.length ≤ 3 by omega), wOks_of fun t ht => (hts t ht).1]
          rfl
        · rw [T.sz, szB]
          omega
        · rw [T.ht]
          omega
        · rw [T.dat, T.dats_map]
          exact .tup h6 (.cons (.str nm) (DpAll.same (hide_mono s6) da))
end
end WD

-- text: W25
set_option Elab.async false
set_option linter.all false
set_option maxRecDepth 100000
set_option maxHeartbeats 400000
namespace WD
open PySem PySem.Spec PyProof.Rows L2 GB GL
open DB hiding isi1 isiT
local macro_rules | `(tactic| walk_at "rd") => `(tactic| (dsimp only [cxOf, Cx.nox, L2.start, tRet, tRetN, tCB, tCons, tNil, tC, tVar, tTup, tLst, tB, tTest, tAnd, tOr, tNot, tAndV, tOrV, tNotV, tIfS, tIf, tSeq, tNext, tDrop, tOp, tUn, tAsg, gName, gSub, tSl, tPart, tNoPart, tCall, tPar, tBM, tChain, tYes, StX.tStar, tFld, tNotN, tIsN, tDNotIn, tDIn, tDGet, tDGet2, tDNewK, gTup, gCons, gNil, tLockE, iKeys, XR.iZipTN, sFld, sDPut, iEnum, XR.iEnumK, XR.iEnumT, iList, RZ.iZipA, iTup, iRng1, iRng2, tMake, tDisp, tPairs, tPar3, tRevL, XR.tTwo3, List.length_cons, List.length_nil, List.set_cons_zero, List.set_cons_succ, List.nil_append, List.cons_append, List.append_nil]))
section
variable {P : Program} {w : World} {K : PySem.W.Frag} {mg : Str → Option Value} {base : Heap}
abbrev st__law_d_atom : Stmt := top 43
theorem sc__law_d_atom : FnScope ["stream", "level", "variables", "name", "many", "k"] ["stream", "level", "variables"] (defScope st__law_d_atom) := ⟨rfl, rfl, rfl, by decide +kernel, rfl, by decide +kernel, by decide +kernel⟩

def spDAtom (K : PySem.W.Frag) (n : Nat) : Sp := fun vs H Q _ => ∃ (N : Addr → Prop) (s c l : Addr) (xs : List Str) (n0 L : Nat), vs = [.ref s, .int (L : Nat), .ref l] ∧ L < n ∧ (∀ a, two s c a → N a) ∧ Tr N H ∧ Stm s c H n0 ∧ n0 + (2 * dr L + 1) < 1000000 ∧ SqL K (hide N H) l (xs.map V.str) ∧ (∀ x ∈ xs, x ∈ vrL) ∧ xs.length ≤ 4 ∧
  ∀ t v H', wOk t = true → isV t = false → t.sz ≤ 2 * szB L + 1 → t.ht ≤ L + 2 → Kept (two s c) H H' → Stm s c H' (n0 + (2 * dr L + 1)) → Dp K (hide N H') v (T.dat t) → Q v H'
theorem pqrs {x : V} {r : Nat} (h : [V.str "p", V.str "p", V.str "q", V.str "r", V.str "s"][r]? = some x) : ∃ (nm : Str) (mn : Nat), x = .str nm ∧ nm ∈ nmL ∧ mn ≤ 2 ∧ valV (mergeK [] [((.inr "p" : Key), V.int 1), (.inr "q", .int 1), (.inr "r", .int 2), (.inr "s", .int 0)]) (.inr nm) = some (.int (mn : Nat)) := by
  match r, h with
  | 0, h => cases h; exact ⟨"p", 1, rfl, by decide +kernel, by decide, rfl⟩
  | 1, h => cases h; exact ⟨"p", 1, rfl, by decide +kernel, by decide, rfl⟩
  | 2, h => cases h; exact ⟨"q", 1, rfl, by decide +kernel, by decide, rfl⟩
  | 3, h => cases h; exact ⟨"r", 2, rfl, by decide +kernel, by decide, rfl⟩
  | 4, h => cases h; exact ⟨"s", 0, rfl, by decide +kernel, by decide, rfl⟩
theorem ok_d_atom (G : Glob K mg) (D : Def K mg "_law_d_atom" st__law_d_atom ["stream", "level", "variables"]) {n : Nat} (c__law_pick : Callee P w K mg base 2 "_law_pick" ["stream", "some"] (spPick K)) (c__law_d_word : Callee P w K mg base (n + 2) "_law_d_word" ["stream", "level", "variables"] (spDWord K n)) : Callee P w K mg base (n + 3) "_law_d_atom" ["stream", "level", "variables"] (spDAtom K n) := by
  obtain ⟨f, fd, F, b, m⟩ := D.ex
  have z_tuple := G.tuple
  have z_range := G.range
  refine ⟨f, fd, F.ok sc__law_d_atom (fun vs H Q E h => ?_) (fun cdv A outer s_ H vs Q E hr h => ?_), b, F.kp, m⟩
  · obtain ⟨N, s, c, l, xs, n0, L, rfl, _⟩ := h
    rfl
  obtain ⟨N, s, c, l, xs, n0, L, rfl, hL, hM, hN, hst, hb, hl, hxs, hxl, k⟩ := h
  have hr__law_d_word := hr
  have hr__law_pick := hr.mono (show 2 ≤ n + 2 by omega)
  have hu := hu_of hr
  refine ⟨_, (pss_cons (ps_set (i := 3) sc__law_d_atom.nd rfl (Or.inl rfl) (pe_own c__law_pick hr__law_pick rfl (pa_cons (pv 0) (pa_cons (pe_lst (pa_cons pe_str (pa_cons pe_str (pa_cons pe_str (pa_cons pe_str (pa_cons pe_str pa_nil)))))) pa_nil)))) (pss_cons (ps_set (i := 4) sc__law_d_atom.nd rfl (Or.inl rfl) (pe_dget hu (pe_disp (pps_cons pe_str pe_int (pps_cons pe_str pe_int (pps_cons pe_str pe_int (pps_cons pe_str pe_int pps_nil)))) (by rfl) (by rfl) (fun z => by cases z) (by decide)) (pv 3) (fun _ _ => rfl))) (pss_one (ps_ret (pe_op op_catA (pe_tup (pa_cons (pv 3) pa_nil)) (pe_callTy call_tuple_of rfl z_tuple boot_tuple (pa_cons (pe_lc (own := [("k", 5)]) (g := (gName 5)) (tt := tYes) rfl sc__law_d_atom.nd (pi_range1 rfl z_range (pa_cons (pv 4) pa_nil)) (blkOk_by (N := ["stream", "level", "variables", "name", "many", "k"]) (sc := defScope st__law_d_atom) (by decide +kernel)) (fun _ _ _ _ _ => (pg_name (i := 5) sc__law_d_atom.nd rfl (Or.inl rfl))) (fun _ _ _ _ _ => pts_nil) (fun _ _ _ _ _ => (pe_own c__law_d_word hr__law_d_word rfl (pa_cons (pv 0) (pa_cons (pv 1) (pa_cons (pv 2) pa_nil)))))) pa_nil))))))), ?_⟩
  have dp := dr_pos L
  refine q_seq (fun σ' H' => ∃ (nm : Str) (mn : Nat), nm ∈ nmL ∧ mn ≤ 2 ∧ valV (mergeK [] [((.inr "p" : Key), V.int 1), (.inr "q", .int 1), (.inr "r", .int 2), (.inr "s", .int 0)]) (.inr nm) = some (.int (mn : Nat)) ∧ σ' = [some (.ref s), some (.int (L : Nat)), some (.ref l), some (.str nm), none, none] ∧ Kept (two s c) H H' ∧ Stm s c H' (n0 + 1)) (fun Z z => ?_) (fun σ2 H2 hp2 => ?_)
  · walk_at "rd"
    refine ⟨_, rfl, by decide, fun q hq => ?_⟩
    have s0 := same_new hq (.lst [.str "p", .str "p", .str "q", .str "r", .str "s"])
    refine ⟨s, c, q, _, n0, rfl, hst.same s0, by omega, fun z => hN.off hq (hM _ z), upd_same, by decide, by decide, fun r x H' hr kp st => ?_⟩
    obtain ⟨nm, mn, rfl, h1, h2, h3⟩ := pqrs hr
    exact z _ _ ⟨nm, mn, h1, h2, h3, rfl, Kept.after s0 kp, st⟩
  obtain ⟨nm, mn, hnm, hmn, hval, rfl, k2, st2⟩ := hp2
  have hN2 : Tr N H2 := k2.tr hN st2.tr
  have hl2 : SqL K (hide N H2) l (xs.map V.str) := Same.seq (k2.sub hM) hl
  refine q_seq (fun σ' H' => σ' = [some (.ref s), some (.int (L : Nat)), some (.ref l), some (.str nm), some (.int (mn : Nat)), none] ∧ Same H2 H') (fun Z z => ?_) (fun σ3 H3 hp3 => ?_)
  · walk_at "rd"
    intro q hq
    refine ⟨upd_same, [((.inr "p" : Key), V.int 1), (.inr "q", .int 1), (.inr "r", .int 2), (.inr "s", .int 0)], rfl, by decide, ?_⟩
    refine ⟨_, rfl, q, _, rfl, ?_, z _ _ ⟨rfl, same_upd hq (same_new hq _) _⟩⟩
    have := DGet.k (k := Sum.inr nm) (show upd (upd H2 q (.dK [])) q (.dK (mergeK [] [((.inr "p" : Key), V.int 1), (.inr "q", .int 1), (.inr "r", .int 2), (.inr "s", .int 0)])) q = _ from upd_same)
    rw [hval] at this
    exact this
  obtain ⟨rfl, e3⟩ := hp3
  walk_at "rd"
  refine ⟨_, rfl, by decide, fun q2 hq2 => ?_⟩
  have t2 := same_new hq2 (.tup [.str nm])
  have a2 := e3.trans t2
  have N2 := hN2.same a2
  have nq2 : ¬ N q2 := (hN2.same e3).off hq2
  have st4 := st2.same a2
  refine rd_lc ?_
  walk_at "rd"
  refine ⟨_, rfl, _, rfl, by omega, by omega, ?_⟩
  rw [show ((mn : Nat) : Int).toNat = mn from Int.toNat_natCast _]
  refine lck (K := K) (St := fun _ => True) (N := N) (M := two s c) (sp_range (lo := 0)) (by omega) hM N2 (fun i H' => Stm s c H' (n0 + 1 + i * dr L)) (st4.mono (Nat.le_add_right _ _)) (fun i H1 H2 q e => q.same e) (fun i H1 D o q nD => q.upd nD) (fun i H1 q => q.tr) (fun _ _ => trivial)
    (fun i d => ∃ t : T, d = t.dat ∧ (wOk t = true ∧ t.sz ≤ szB L ∧ t.ht ≤ L + 1)) (fun i y Hq Hr N7 Q2 Q3 hi k7 st7 e7 r7 tr7 nn7 hs7 q2' => ?_) (fun Dl H5 ys dl hDl nDl k7 st7 hy7 da hlen hok => ?_)
  · obtain ⟨rfl, rfl⟩ := r7
    have him : i * dr L ≤ 1 * dr L := Nat.mul_le_mul_right _ (by omega)
    walk_at "rd"
    refine ⟨rfl, iteT ?_⟩
    refine ⟨_, rfl, _, rfl, _, rfl, N7, s, c, l, xs, _, L, rfl, hL, fun a q => nn7 a (hM a q), tr7, st7.same e7, by omega, Same.seq ((hide_mono a2).trans hs7) hl2, hxs, hxl, fun t v H' w1 w2 w3 kp st dp => ?_⟩
    refine q2' v H' t.dat kp ?_ ⟨t, rfl, w1, w2, w3⟩ dp
    have e : n0 + 1 + i * dr L + dr L = n0 + 1 + (i + 1) * dr L := by rw [Nat.add_mul, Nat.one_mul, Nat.add_assoc]
    rw [← e]
    exact st
  · obtain ⟨ts, rfl, hts⟩ := exists_list dl hok
    rw [List.length_map] at hlen
    have mm : mn * dr L ≤ 2 * dr L := Nat.mul_le_mul_right _ hmn
    have kA : Kept (two s c) H H5 := (k2.same a2).trans k7
    have hN5 : Tr N H5 := kA.tr hN st7.tr
    have stF : Stm s c H5 (n0 + (2 * dr L + 1)) := st7.mono (by omega)
    have yl : ys.length = ts.length := by have := DpAll.length da; rw [List.length_map] at this; exact this
    refine ⟨Dl, ys, rfl, .inl ⟨.inl (.inl hy7), fun p5 hp5 => ?_⟩⟩
    have s5 := same_new hp5 (.tup ys)
    have hq5 : SqT K (hide N H5) q2 [.str nm] := .inl (.inl ((hide_off nq2).trans (k7.at (fun q => nq2 (hM _ q)) upd_same)))
    refine catN (hN5.same s5) (Same.tupL (hide_mono s5) hq5) (.inl (.inl upd_same)) (by simp) (by simp; omega) fun p6 H6 e6 h6 => ?_
    have s6 := s5.trans e6
    have hsz := szs_all (B := szB L) ts fun t ht => (hts t ht).2.1
    have hht := hts_all (B := L + 1) ts fun t ht => (hts t ht).2.2
    have h3 : ts.length * szB L ≤ 2 * szB L := Nat.mul_le_mul_right _ (by omega)
    refine k (.n nm ts) _ H6 ?_ rfl ?_ ?_ (kA.same s6) (stF.same s6) ?_
    · rw [wOk, decide_eq_true hnm, decide_eq_true (show ts.length ≤ 3 by omega), wOks_of fun t ht => (hts t ht).1]
      rfl
    · rw [T.sz]
      omega
    · rw [T.ht]
      omega
    · rw [T.dat, T.dats_map]
      exact .tup h6 (.cons (.str nm) (DpAll.same (hide_mono s6) da))
end
end WD

-- text: W26
set_option Elab.async false
set_option linter.all false
set_option maxRecDepth 100000
set_option maxHeartbeats 400000
namespace WD
open PySem PySem.Spec PyProof.Rows L2 GB GL
open DB hiding isi1 isiT
local macro_rules | `(tactic| walk_at "rd") => `(tactic| (dsimp only [cxOf, Cx.nox, L2.start, tRet, tRetN, tCB, tCons, tNil, tC, tVar, tTup, tLst, tB, tTest, tAnd, tOr, tNot, tAndV, tOrV, tNotV, tIfS, tIf, tSeq, tNext, tDrop, tOp, tUn, tAsg, gName, gSub, tSl, tPart, tNoPart, tCall, tPar, tBM, tChain, tYes, StX.tStar, tFld, tNotN, tIsN, tDNotIn, tDIn, tDGet, tDGet2, tDNewK, gTup, gCons, gNil, tLockE, iKeys, XR.iZipTN, sFld, sDPut, iEnum, XR.iEnumK, XR.iEnumT, iList, RZ.iZipA, iTup, iRng1, iRng2, tMake, tPar3, tRevL, XR.tTwo3, List.length_cons, List.length_nil, List.set_cons_zero, List.set_cons_succ, List.nil_append, List.cons_append, List.append_nil]))
section
variable {P : Program} {w : World} {K : PySem.W.Frag} {mg : Str → Option Value} {base : Heap}
abbrev st__law_d_odd_words : Stmt := top 46
theorem sc__law_d_odd_words : FnScope [] [] (defScope st__law_d_odd_words) := ⟨rfl, rfl, rfl, by decide +kernel, rfl, by decide +kernel, by decide +kernel⟩

/-! ### written data -/
def tDat (K : PySem.W.Frag) (d : PyData) : TE := fun _ H Q => ∀ v H', Same H H' → (∀ N, Tr N H → DE K (hide N H') v d) → Q v H'
def tDats (K : PySem.W.Frag) (ds : List PyData) : TA := fun _ H Q => ∀ vs H', Same H H' → (∀ N, Tr N H → DEs K (hide N H') vs ds) → Q vs H'
theorem dats_len {K : PySem.W.Frag} {ds : List PyData} {vs : List V} {H H' : Hp} (h : ∀ N, Tr N H → DEs K (hide N H') vs ds) : vs.length = ds.length := (h no0 (tr0 H)).length
section
variable {X : Cx}
theorem pe_imp {e : Expr} {t t' : TE} (h : PE X e t) (i : ∀ σ H Q, t' σ H Q → t σ H Q) : PE X e t' := ⟨fun pins s σ H Q I q => h.run pins s σ H Q I (i σ H Q q)⟩
theorem pa_imp {es : List Expr} {t t' : TA} (h : PA X es t) (i : ∀ σ H Q, t' σ H Q → t σ H Q) : PA X es t' := ⟨fun pos pins s σ H Q I q => h.run pos pins s σ H Q I (i σ H Q q)⟩
theorem pd_non {k : Nat} {pos : Pos} : PE X (.Constant .none k pos) (tDat X.K .none) := pe_imp pe_non fun σ H Q q => q _ H (Same.refl H) fun _ _ => .non
theorem pd_bl {b : Bool} {k : Nat} {pos : Pos} : PE X (.Constant (.bool b) k pos) (tDat X.K (.bool b)) := pe_imp pe_bl fun σ H Q q => q _ H (Same.refl H) fun _ _ => .bl b
theorem pd_int {i : Int} {k : Nat} {pos : Pos} : PE X (.Constant (.int i) k pos) (tDat X.K (.int i)) := pe_imp pe_int fun σ H Q q => q _ H (Same.refl H) fun _ _ => .int i
theorem pd_neg {i : Int} {k : Nat} {p pos : Pos} : PE X (.UnaryOp .USub (.Constant (.int i) k p) pos) (tDat X.K (.int (-i))) := pe_imp (pe_un un_neg pe_int) fun σ H Q q => ⟨i, rfl, q _ H (Same.refl H) fun _ _ => .int (-i)⟩
theorem pd_str {x : Str} {k : Nat} {pos : Pos} : PE X (.Constant (.str x) k pos) (tDat X.K (.str x)) := pe_imp pe_str fun σ H Q q => q _ H (Same.refl H) fun _ _ => .str x
theorem pd_dict {pos : Pos} : PE X (.Dict [] [] pos) (tDat X.K (.dict [])) := pe_imp pe_dnewK fun σ H Q q p hp => q _ _ (same_new hp _) fun N t => .dct (hide_upd (t.off hp))
theorem pds_nil : PA X [] (tDats X.K []) := pa_imp pa_nil fun σ H Q q => q _ H (Same.refl H) fun _ _ => .nil
theorem pds_cons {e : Expr} {es : List Expr} {d : PyData} {ds : List PyData} (he : PE X e (tDat X.K d)) (ha : PA X es (tDats X.K ds)) (hs : starEach (e :: es) X.env = (false, eval e X.env) :: starEach es X.env := by rfl) : PA X (e :: es) (tDats X.K (d :: ds)) :=
  pa_imp (pa_cons he ha hs) fun σ H Q q v H1 e1 h1 vs H2 e2 h2 => q _ H2 (e1.trans e2) fun N t => .cons (DE.same (hide_mono e2) (h1 N t)) (h2 N (t.same e1))
theorem pd_lst {es : List Expr} {ds : List PyData} {pos : Pos} (ha : PA X es (tDats X.K ds)) (hl : ds.length ≤ 1000) : PE X (.List es pos) (tDat X.K (.list ds)) :=
  pe_imp (pe_lst ha) fun σ H Q q vs H1 e1 h1 => ⟨by rw [dats_len h1, sizeLine_eq]; omega, fun p hp => q _ _ (e1.trans (same_new hp _)) fun N t => .lst (.inl (.inl (hide_upd ((t.same e1).off hp)))) (DEs.same (hide_mono (same_new hp _)) (h1 N t))⟩
theorem pd_tup {es : List Expr} {ds : List PyData} {k : Nat} {pos : Pos} (ha : PA X es (tDats X.K ds)) (hl : ds.length ≤ 1000) : PE X (.Tuple es k pos) (tDat X.K (.tuple ds)) :=
  pe_imp (pe_tup ha) fun σ H Q q vs H1 e1 h1 => ⟨by rw [dats_len h1, sizeLine_eq]; omega, fun p hp => q _ _ (e1.trans (same_new hp _)) fun N t => .tup (.inl (.inl (hide_upd ((t.same e1).off hp)))) (DEs.same (hide_mono (same_new hp _)) (h1 N t))⟩
end
def oddD : List PyData := [.none, .int 5, .bool true, .str "", .str "x", .str "a", .str "Xy", .str "X1y", .str "XX", .list [], .tuple [], .dict [], .tuple [.str "X"], .tuple [.str "not"], .tuple [.str "a", .int 5], .tuple [.str "f", .tuple [.str "a"], .none], .tuple [.str "f", .str "a"], .tuple [.str "=", .str "X"], .tuple [.str "=", .tuple [.str "a"], .tuple [.str "b"], .tuple [.str "c"]], .tuple [.int 5, .str "X"], .tuple [.str "f", .tuple [.str "=", .str "X", .str "Y"]], .tuple [.str "Ff", .str "X"]]
def spOdd (K : PySem.W.Frag) : Sp := fun vs H Q _ => vs = [] ∧ ∀ H' l xs, Same H H' → H l = none → H' l = some (.lst xs) → (∀ N, Tr N H → DEs K (hide N H') xs oddD) → Q (.ref l) H'
theorem ok_odd (D : Def K mg "_law_d_odd_words" st__law_d_odd_words []) : Callee P w K mg base 1 "_law_d_odd_words" [] (spOdd K) := by
  obtain ⟨f, fd, F, b, m⟩ := D.ex
  refine ⟨f, fd, F.ok sc__law_d_odd_words (fun vs H Q E h => ?_) (fun cdv A outer s H vs Q E hr h => ?_), b, F.kp, m⟩
  · obtain ⟨rfl, _⟩ := h
    rfl
  obtain ⟨rfl, k⟩ := h
  refine ⟨_, pss_one (ps_ret (pe_lst (pds_cons pd_non (pds_cons pd_int (pds_cons pd_bl (pds_cons pd_str (pds_cons pd_str (pds_cons pd_str (pds_cons pd_str (pds_cons pd_str (pds_cons pd_str (pds_cons (pd_lst pds_nil (by decide)) (pds_cons (pd_tup pds_nil (by decide)) (pds_cons pd_dict (pds_cons (pd_tup (pds_cons pd_str pds_nil) (by decide)) (pds_cons (pd_tup (pds_cons pd_str pds_nil) (by decide)) (pds_cons (pd_tup (pds_cons pd_str (pds_cons pd_int pds_nil)) (by decide)) (pds_cons (pd_tup (pds_cons pd_str (pds_cons (pd_tup (pds_cons pd_str pds_nil) (by decide)) (pds_cons pd_non pds_nil))) (by decide)) (pds_cons (pd_tup (pds_cons pd_str (pds_cons pd_str pds_nil)) (by decide)) (pds_cons (pd_tup (pds_cons pd_str (pds_cons pd_str pds_nil)) (by decide)) (pds_cons (pd_tup (pds_cons pd_str (pds_cons (pd_tup (pds_cons pd_str pds_nil) (by decide)) (pds_cons (pd_tup (pds_cons pd_str pds_nil) (by decide)) (pds_cons (pd_tup (pds_cons pd_str pds_nil) (by decide)) pds_nil)))) (by decide)) (pds_cons (pd_tup (pds_cons pd_int (pds_cons pd_str pds_nil)) (by decide)) (pds_cons (pd_tup (pds_cons pd_str (pds_cons (pd_tup (pds_cons pd_str (pds_cons pd_str (pds_cons pd_str pds_nil))) (by decide)) pds_nil)) (by decide)) (pds_cons (pd_tup (pds_cons pd_str (pds_cons pd_str pds_nil)) (by decide)) pds_nil)))))))))))))))))))))))), ?_⟩
  intro vs H1 e1 h1
  refine ⟨by rw [dats_len h1]; decide, fun p hp => ?_⟩
  exact k _ p vs (e1.trans (same_new hp _)) (none_of_none e1 hp) upd_same fun N t => DEs.same (hide_mono (same_new hp _)) (h1 N t)
end
end WD

-- text: W27
set_option Elab.async false
set_option linter.all false
set_option maxRecDepth 100000
set_option maxHeartbeats 400000
namespace WD
open PySem PySem.Spec PyProof.Rows L2 GB GL LamX XR
open DB hiding isi1 isiT
local macro_rules | `(tactic| walk_at "rd") => `(tactic| (dsimp only [cxOf, Cx.nox, L2.start, tRet, tRetN, tCB, tCons, tNil, tC, tVar, tTup, tLst, tB, tTest, tAnd, tOr, tNot, tAndV, tOrV, tNotV, tIfS, tIf, tSeq, tNext, tDrop, tOp, tUn, tAsg, gName, gSub, tSl, tPart, tNoPart, tCall, tPar, tBM, tChain, tYes, StX.tStar, tFld, tNotN, tIsN, tDNotIn, tDIn, tDGet, tDGet2, tDNewK, gTup, gCons, gNil, tLockE, iKeys, XR.iZipTN, sFld, sDPut, iEnum, XR.iEnumK, XR.iEnumT, iList, RZ.iZipA, iTup, iRng1, iRng2, tMake, tPar3, tRevL, XR.tTwo3, List.length_cons, List.length_nil, List.set_cons_zero, List.set_cons_succ, List.nil_append, List.cons_append, List.append_nil]))
section
variable {P : Program} {w : World} {K : PySem.W.Frag} {mg : Str → Option Value} {base : Heap}
abbrev st__law_d_met : Stmt := top 48
theorem sc__law_d_met : FnScope ["ask", "e"] ["ask"] (defScope st__law_d_met) := ⟨rfl, rfl, rfl, by decide +kernel, rfl, by decide +kernel, by decide +kernel⟩

/-- what an own error with a field must have for a clause that reads it -/
structure ErrF (K : PySem.W.Frag) (mg : Str → Option Value) (x fld : Str) (C : Addr) : Prop where
  gC : mg x = some (.ref C)
  xf : XfC K C
  no : PySem.W.findIn K (.ref C) fld = some none
def errsOf (C : Nat → Addr) : List (Addr × Str × Str) := [(C 0, "word", "thing"), (C 1, "place", "thing"), (C 2, "put", "thing"), (C 3, "pairs", "index"), (C 4, "clause", "thing"), (C 5, "clauses", "index"), (C 6, "taken", "index"), (C 7, "truth", "thing"), (C 8, "rows", "index"), (C 9, "order", "thing"), (C 10, "name", "name"), (C 11, "number", "thing"), (C 12, "arities", "index"), (C 13, "ground", "thing")]
structure Errs (K : PySem.W.Frag) (mg : Str → Option Value) (C : Nat → Addr) : Prop where
  e0 : ErrF K mg "BadWord" "thing" (C 0)
  e1 : ErrF K mg "BadPlace" "thing" (C 1)
  e2 : ErrF K mg "BadSubstitution" "thing" (C 2)
  e3 : ErrF K mg "BadPairs" "index" (C 3)
  e4 : ErrF K mg "BadClause" "thing" (C 4)
  e5 : ErrF K mg "BadClauses" "index" (C 5)
  e6 : ErrF K mg "BadTaken" "index" (C 6)
  e7 : ErrF K mg "BadTruth" "thing" (C 7)
  e8 : ErrF K mg "BadRows" "index" (C 8)
  e9 : ErrF K mg "BadOrder" "thing" (C 9)
  e10 : ErrF K mg "NotOrdered" "name" (C 10)
  e11 : ErrF K mg "BadNumber" "thing" (C 11)
  e12 : ErrF K mg "BadArities" "index" (C 12)
  e13 : ErrF K mg "NotGround" "thing" (C 13)
  x00 : PySem.W.exmOne K (.ref (C 0)) (.ref (C 0)) = some true
  x10 : PySem.W.exmOne K (.ref (C 1)) (.ref (C 0)) = some false
  x11 : PySem.W.exmOne K (.ref (C 1)) (.ref (C 1)) = some true
theorem pe_met {X : Cx} {T : List (Addr × Str)} {C : Nat → Addr} {c Pt : Addr} {k : Nat} {params : Arguments} {body : Expr} {scope : Scope} {t : XK → TE} {p lpos pos : Pos} (D : Def X.K X.mg "_law_d_met" st__law_d_met ["ask"]) (ER : Errs X.K X.mg C) (hg : Gl X "_law_d_met")
    (TB : TabB X.base X.mg c Pt) (hcode : X.env.code = .ref c) (hmT : (Pt, X.env.qual ++ "<lambda>") ∈ T) (hu : ∀ p ∈ T, p.1 = Pt → p.2 = X.env.qual ++ "<lambda>") (hr : Room (k + 2) X.A) (L : LamS X.env.scope scope) (hdef : defaultsOf params X.env = ([], []))
    (hbind : ∀ (q : Str) (cl : List (Str × Addr)) (pm cv ctv : Value), bindArgs (PySem.W.kla_fn "<lambda>" q params body scope cl pm cv ctv) ⟨[], []⟩ = pure [])
    (hbody : ∀ (A : Around) (outer : List Env) (s : Shared) (H : Hp) (E : XK) (f c' : Addr), Room k (A.deeper (lamEnv X scope s.heap.objs.size f c')) → PE (lamCx X A outer s H E scope f c') body (t E)) :
    PE X (.Call (.Name "_law_d_met" p) [.Lambda params body scope lpos] [] pos) (tLam T (TTmet X.K (errsOf C) "told") t) := by
  obtain ⟨f, fd, F, b, m⟩ := D.ex
  obtain ⟨oc, od, kV, doc, pm, an, cdv, ct, osl, rfl, lk, hcd⟩ := F.ex
  refine pe_lamcall hg m F.kp lk hcd b sc__law_d_met rfl (.inl rfl) ?_ TB hcode hmT hu hr L hdef hbind hbody
  refine met_gives (X := X) (Ng := ["ask", "e"]) (n := "e") (errs := errsOf C) sc__law_d_met.nd rfl rfl rfl (fun f => rfl) (fun s H => ?_)
  exact (.cons ⟨rfl, by decide, .inl ER.e0.gC⟩ (fun a oe cls d pn hz hf => pss_one (ps_ret (pe_tup (pa_cons pe_str (pa_cons (pe_xf ER.e0.xf ER.e0.no hz hf (pv 1)) pa_nil))))) (.cons ⟨rfl, by decide, .inl ER.e1.gC⟩ (fun a oe cls d pn hz hf => pss_one (ps_ret (pe_tup (pa_cons pe_str (pa_cons (pe_xf ER.e1.xf ER.e1.no hz hf (pv 1)) pa_nil))))) (.cons ⟨rfl, by decide, .inl ER.e2.gC⟩ (fun a oe cls d pn hz hf => pss_one (ps_ret (pe_tup (pa_cons pe_str (pa_cons (pe_xf ER.e2.xf ER.e2.no hz hf (pv 1)) pa_nil))))) (.cons ⟨rfl, by decide, .inl ER.e3.gC⟩ (fun a oe cls d pn hz hf => pss_one (ps_ret (pe_tup (pa_cons pe_str (pa_cons (pe_xf ER.e3.xf ER.e3.no hz hf (pv 1)) pa_nil))))) (.cons ⟨rfl, by decide, .inl ER.e4.gC⟩ (fun a oe cls d pn hz hf => pss_one (ps_ret (pe_tup (pa_cons pe_str (pa_cons (pe_xf ER.e4.xf ER.e4.no hz hf (pv 1)) pa_nil))))) (.cons ⟨rfl, by decide, .inl ER.e5.gC⟩ (fun a oe cls d pn hz hf => pss_one (ps_ret (pe_tup (pa_cons pe_str (pa_cons (pe_xf ER.e5.xf ER.e5.no hz hf (pv 1)) pa_nil))))) (.cons ⟨rfl, by decide, .inl ER.e6.gC⟩ (fun a oe cls d pn hz hf => pss_one (ps_ret (pe_tup (pa_cons pe_str (pa_cons (pe_xf ER.e6.xf ER.e6.no hz hf (pv 1)) pa_nil))))) (.cons ⟨rfl, by decide, .inl ER.e7.gC⟩ (fun a oe cls d pn hz hf => pss_one (ps_ret (pe_tup (pa_cons pe_str (pa_cons (pe_xf ER.e7.xf ER.e7.no hz hf (pv 1)) pa_nil))))) (.cons ⟨rfl, by decide, .inl ER.e8.gC⟩ (fun a oe cls d pn hz hf => pss_one (ps_ret (pe_tup (pa_cons pe_str (pa_cons (pe_xf ER.e8.xf ER.e8.no hz hf (pv 1)) pa_nil))))) (.cons ⟨rfl, by decide, .inl ER.e9.gC⟩ (fun a oe cls d pn hz hf => pss_one (ps_ret (pe_tup (pa_cons pe_str (pa_cons (pe_xf ER.e9.xf ER.e9.no hz hf (pv 1)) pa_nil))))) (.cons ⟨rfl, by decide, .inl ER.e10.gC⟩ (fun a oe cls d pn hz hf => pss_one (ps_ret (pe_tup (pa_cons pe_str (pa_cons (pe_xf ER.e10.xf ER.e10.no hz hf (pv 1)) pa_nil))))) (.cons ⟨rfl, by decide, .inl ER.e11.gC⟩ (fun a oe cls d pn hz hf => pss_one (ps_ret (pe_tup (pa_cons pe_str (pa_cons (pe_xf ER.e11.xf ER.e11.no hz hf (pv 1)) pa_nil))))) (.cons ⟨rfl, by decide, .inl ER.e12.gC⟩ (fun a oe cls d pn hz hf => pss_one (ps_ret (pe_tup (pa_cons pe_str (pa_cons (pe_xf ER.e12.xf ER.e12.no hz hf (pv 1)) pa_nil))))) (.cons ⟨rfl, by decide, .inl ER.e13.gC⟩ (fun a oe cls d pn hz hf => pss_one (ps_ret (pe_tup (pa_cons pe_str (pa_cons (pe_xf ER.e13.xf ER.e13.no hz hf (pv 1)) pa_nil))))) .nil))))))))))))))
/-- BadWord is told -/
theorem met_word {K : PySem.W.Frag} {mg : Str → Option Value} {C : Nat → Addr} {y : V} {H : Hp} {Q : VK} (ER : Errs K mg C) (h : ∀ p H', Same H H' → H' p = some (.tup [.str "word", y]) → Q (.ref p) H') : Left (C 0) "thing" y H (metE K Q (errsOf C)) := by
  intro d H' e hn hd
  exact ⟨true, ER.x00, fun _ => ⟨rfl, d, _, y, rfl, hd, rfl, fun p hp => h p _ (e.trans (same_new hp _)) upd_same⟩, (fun z => Bool.noConfusion z)⟩
theorem met_place {K : PySem.W.Frag} {mg : Str → Option Value} {C : Nat → Addr} {y : V} {H : Hp} {Q : VK} (ER : Errs K mg C) (h : ∀ p H', Same H H' → H' p = some (.tup [.str "place", y]) → Q (.ref p) H') : Left (C 1) "thing" y H (metE K Q (errsOf C)) := by
  intro d H' e hn hd
  exact ⟨false, ER.x10, (fun z => Bool.noConfusion z), fun _ => ⟨true, ER.x11, fun _ => ⟨rfl, d, _, y, rfl, hd, rfl, fun p hp => h p _ (e.trans (same_new hp _)) upd_same⟩, (fun z => Bool.noConfusion z)⟩⟩
end
end WD

-- text: W28
set_option Elab.async false
set_option linter.all false
set_option maxRecDepth 100000
set_option maxHeartbeats 400000
namespace WD
open PySem PySem.Spec PyProof.Rows L2 GB GL LamX XR
open DB hiding isi1 isiT
local macro_rules | `(tactic| walk_at "rd") => `(tactic| (dsimp only [cxOf, Cx.nox, L2.start, tRet, tRetN, tCB, tCons, tNil, tC, tVar, tTup, tLst, tB, tTest, tAnd, tOr, tNot, tAndV, tOrV, tNotV, tIfS, tIf, tSeq, tNext, tDrop, tOp, tUn, tAsg, gName, gSub, tSl, tPart, tNoPart, tCall, tPar, tBM, tChain, tYes, StX.tStar, tFld, tNotN, tIsN, tDNotIn, tDIn, tDGet, tDGet2, tDNewK, gTup, gCons, gNil, tLockE, iKeys, XR.iZipTN, sFld, sDPut, iEnum, XR.iEnumK, XR.iEnumT, iList, RZ.iZipA, iTup, iRng1, iRng2, tMake, tPar, tPar3, tRevL, XR.tTwo3, List.length_cons, List.length_nil, List.set_cons_zero, List.set_cons_succ, List.nil_append, List.cons_append, List.append_nil]))
section
variable {P : Program} {w : World} {K : PySem.W.Frag} {mg : Str → Option Value} {base : Heap}
abbrev st__law_word_right : Stmt := top 56
theorem sc__law_word_right : FnScope ["stream", "word", "part", "handed", "parts", "was", "told", "place", "deep", "asked", "found", "some", "odds", "odd"] ["stream", "word", "part"] (defScope st__law_word_right) := ⟨rfl, rfl, rfl, by decide +kernel, rfl, by decide +kernel, by decide +kernel⟩

/-- a def whose code object is told -/
structure DefC (K : PySem.W.Frag) (mg : Str → Option Value) (x : Str) (st : Stmt) (ps : List Str) (c : Addr) : Prop where
  ex : ∃ (f : Addr) (fd : FuncData), (∃ (oc : Value) (od : Option Addr) (kV doc pm : Value) (an : Option Addr) (ct : Value) (osl : Array (Option Value)),
    fd = PySem.W.fnOf x x (defArgs st) (defBody st) (defScope st) .none kV doc pm an (.ref c) ct ∧ K.lookup f = some ⟨oc, od, .func fd, osl⟩ ∧ PySem.W.codeIn K (.ref c) x = true) ∧ PySem.W.keepIn K (.ref f) = true ∧ L2.Binds K fd ps [] ∧ mg x = some (.ref f)
theorem okGL {x : Str} {st : Stmt} {f c : Addr} {fd : FuncData} {N ps : List Str} {k : Nat} {sp : Sp} (F : ∃ (oc : Value) (od : Option Addr) (kV doc pm : Value) (an : Option Addr) (ct : Value) (osl : Array (Option Value)),
    fd = PySem.W.fnOf x x (defArgs st) (defBody st) (defScope st) .none kV doc pm an (.ref c) ct ∧ K.lookup f = some ⟨oc, od, .func fd, osl⟩ ∧ PySem.W.codeIn K (.ref c) x = true) (S : FnScope N ps (defScope st)) (len : ∀ vs H Q E, sp vs H Q E → vs.length = ps.length)
    (hbody : ∀ (A : Around) (outer : List Env) (s : Shared) (H : Hp) (vs : List V) (Q : VK) (E : XK), RoomG k (A.deeper (envOfC x (defScope st) s.heap.objs.size f (.ref c))) → sp vs H Q E →
      ∃ t, PSs (cxOf CX0 P w K mg base N x (defScope st) f (.ref c) A outer s H E).nox (defBody st) t ∧ t { nx := fun _ H' => Q .non H', rt := Q } (start N vs) H) : FnG P w K mg base CX0 (k + 1) f fd ps sp := by
  obtain ⟨oc, od, kV, doc, pm, an, ct, osl, rfl, lk, hcd⟩ := F
  refine ⟨len, fun A outer s H args us vs Q E hr e0 hb r hsp => ?_⟩
  refine run_ofS lk hcd S hr.rm e0 hb r (len _ _ _ _ hsp) fun hr' => ?_
  obtain ⟨t, h, q⟩ := hbody A outer s H vs Q E ⟨hr', hr.gd⟩ hsp
  exact ⟨t, h.nox, q⟩
structure CalleeG (P : Program) (w : World) (K : PySem.W.Frag) (mg : Str → Option Value) (base : Heap) (k : Nat) (x : Str) (ps : List Str) (sp : Sp) : Prop where
  ex : ∃ (f : Addr) (fd : FuncData), FnG P w K mg base CX0 k f fd ps sp ∧ L2.Binds K fd ps [] ∧ PySem.W.keepIn K (.ref f) = true ∧ mg x = some (.ref f)
theorem pe_ownG {X : Cx} {k : Nat} {x : Str} {ps : List Str} {sp : Sp} {e : Expr} {es : List Expr} {t : TA} {p pos : Pos} (C : CalleeG X.prog X.w X.K X.mg X.base k x ps sp) (hr : RoomG k X.A) (hg : Gl X x) (ha : PA X (e :: es) t) (hd : (x == ("__debug__" : Str)) = false := by decide)
    (he : starEach (e :: es) X.env = (false, eval e X.env) :: starEach es X.env := by rfl) (hpl : (backTo pos (starEach es X.env)).any (·.1) = false := by rfl) :
    PE X (.Call (.Name x p) (e :: es) [] pos) (tCall sp [] E0 t) := by
  obtain ⟨f, fd, F, b, kp, m⟩ := C.ex
  exact pe_callG F hr hg m kp b .nil pass0 ha hd he hpl
def lamQ (x : Str) : Str := (envOfC x (defScope st__law_word_right) 0 0 .none).qual ++ "<lambda>"
/-- the stream and the tables -/
def NT (s c : Addr) (TL : List (Addr × Str)) : Addr → Prop := fun a => two s c a ∨ ∃ p ∈ TL, p.1 = a
def spRight (K : PySem.W.Frag) (TL : List (Addr × Str)) : Sp := fun vs H Q _ => ∃ s c v1 v2 t u n0, vs = [.ref s, v1, v2] ∧ Tabs TL H ∧ Stm s c H n0 ∧ n0 + 5000 < 1000000 ∧ Dp K (hide (NT s c TL) H) v1 (T.dat t) ∧ Dp K (hide (NT s c TL) H) v2 (T.dat u) ∧ aOk t = true ∧ wOk u = true ∧ t.sz ≤ 121 ∧ t.ht ≤ 6 ∧ u.sz ≤ 13 ∧ u.ht ≤ 3 ∧
  ∀ H', Tabs TL H' → Stm s c H' (n0 + 5000) → Q (.bl true) H'

/-! ### kept but for the tables -/
section
variable {H H' : Hp}
theorem seq_ext {a : Addr} {xs : List V} (e : ExtN H H') (h : SqL K H a xs) : SqL K H' a xs := by
  rcases h with (h | ⟨o, h⟩) | h
  · exact .inl (.inl (e _ _ h fun ps z => nomatch z))
  · exact .inl (.inr ⟨o, e _ _ h fun ps z => nomatch z⟩)
  · exact .inr h
theorem tup_ext {a : Addr} {xs : List V} (e : ExtN H H') (h : SqT K H a xs) : SqT K H' a xs := by
  rcases h with (h | ⟨o, h⟩) | h
  · exact .inl (.inl (e _ _ h fun ps z => nomatch z))
  · exact .inl (.inr ⟨o, e _ _ h fun ps z => nomatch z⟩)
  · exact .inr h
mutual
theorem dp_ext (e : ExtN H H') : ∀ {v : V} {d : PyData}, Dp K H v d → Dp K H' v d
  | _, _, .non => .non
  | _, _, .bl b => .bl b
  | _, _, .int i => .int i
  | _, _, .str x => .str x
  | _, _, .lst h a => .lst (seq_ext e h) (dps_ext e a)
  | _, _, .tup h a => .tup (tup_ext e h) (dps_ext e a)
theorem dps_ext (e : ExtN H H') : ∀ {vs : List V} {ds : List PyData}, DpAll K H vs ds → DpAll K H' vs ds
  | _, _, .nil => .nil
  | _, _, .cons h a => .cons (dp_ext e h) (dps_ext e a)
end
mutual
theorem de_ext (e : ExtN H H') : ∀ {v : V} {d : PyData}, DE K H v d → DE K H' v d
  | _, _, .non => .non
  | _, _, .bl b => .bl b
  | _, _, .int i => .int i
  | _, _, .str x => .str x
  | _, _, .lst h a => .lst (seq_ext e h) (des_ext e a)
  | _, _, .tup h a => .tup (tup_ext e h) (des_ext e a)
  | _, _, .dct h => .dct (e _ _ h fun ps z => nomatch z)
theorem des_ext (e : ExtN H H') : ∀ {vs : List V} {ds : List PyData}, DEs K H vs ds → DEs K H' vs ds
  | _, _, .nil => .nil
  | _, _, .cons h a => .cons (de_ext e h) (des_ext e a)
end
theorem hide_ext {N : Addr → Prop} (e : ExtN H H') : ExtN (hide N H) (hide N H') := fun a o q n => by
  obtain ⟨m, q⟩ := hide_some q
  rw [hide_off m]
  exact e a o q n
theorem parts_ext {ps : List V} {zs : List (List Nat × T)} (e : ExtN H H') (p : Parts K H ps zs) : Parts K H' ps zs := paired_imp (fun _ _ q => by
  obtain ⟨A, L, wv, a, b, c, d⟩ := q.ex
  exact ⟨A, L, wv, a, e _ _ b (fun ps z => nomatch z), e _ _ c (fun ps z => nomatch z), dp_ext e d⟩) p
theorem stm_ext {s c : Addr} {n : Nat} (e : ExtN H H') (h : Stm s c H n) : Stm s c H' n := by
  obtain ⟨a, b, d, f, h1, h2⟩ := h
  exact ⟨a, b, d, f, ⟨e _ _ h1.hs (fun ps z => nomatch z), e _ _ h1.hc (fun ps z => nomatch z), h1.h0, h1.m0, h1.m1⟩, h2⟩
theorem tabs_kept {TL : List (Addr × Str)} {s c : Addr} {n : Nat} (t : Tabs TL H) (st : Stm s c H n) (k : Kept (two s c) H H') : Tabs TL H' := fun p hp => by
  obtain ⟨_, _, _, _, h1, _⟩ := st
  have off : ∀ {a : Addr} {o : HO}, H a = some o → (∀ xs, o ≠ .lst xs) → H' a = some o := fun {a o} h n => k.at (fun q => by
    rcases q with rfl | rfl
    · exact n _ (Option.some.inj (h.symm.trans h1.hs))
    · exact n _ (Option.some.inj (h.symm.trans h1.hc))) h
  obtain ⟨ps, a1, a2, a3⟩ := t p hp
  refine ⟨ps, off a1 (fun xs z => nomatch z), a2, fun pos cv hc => ?_⟩
  obtain ⟨c', e1, e2⟩ := a3 pos cv hc
  exact ⟨c', e1, off e2 fun xs z => by unfold CodeO at z; cases z⟩
theorem nt_tr {TL : List (Addr × Str)} {s c : Addr} {n : Nat} (t : Tabs TL H) (st : Stm s c H n) : Tr (NT s c TL) H := fun a q => by
  rcases q with q | ⟨p, hp, rfl⟩
  · exact st.tr a q
  · obtain ⟨ps, a1, _⟩ := t p hp
    rw [a1]
    exact fun z => nomatch z
end
/-- what stands while a word is looked at -/
structure Bs (K : PySem.W.Frag) (TL : List (Addr × Str)) (s c : Addr) (v1 v2 vh : V) (t u : T) (dh : PyData) (lp : Addr) (ps : List V) (H : Hp) (n : Nat) : Prop where
  tabs : Tabs TL H
  st : Stm s c H n
  w : Dp K (hide (NT s c TL) H) v1 t.dat
  p : Dp K (hide (NT s c TL) H) v2 u.dat
  h : Dp K (hide (NT s c TL) H) vh dh
  l : hide (NT s c TL) H lp = some (.lst ps)
  q : Parts K (hide (NT s c TL) H) ps (partsT t)
section
variable {TL : List (Addr × Str)} {s c : Addr} {v1 v2 vh : V} {t u : T} {dh : PyData} {lp : Addr} {ps : List V} {H H' : Hp} {n n' : Nat}
theorem Bs.same (b : Bs K TL s c v1 v2 vh t u dh lp ps H n) (e : Same H H') : Bs K TL s c v1 v2 vh t u dh lp ps H' n :=
  ⟨b.tabs.ext e, b.st.same e, Dp.same (hide_mono e) b.w, Dp.same (hide_mono e) b.p, Dp.same (hide_mono e) b.h, hide_mono e _ _ b.l, b.q.same (hide_mono e)⟩
theorem Bs.kept (b : Bs K TL s c v1 v2 vh t u dh lp ps H n) (k : Kept (two s c) H H') (st : Stm s c H' n') : Bs K TL s c v1 v2 vh t u dh lp ps H' n' := by
  have e : Same (hide (NT s c TL) H) (hide (NT s c TL) H') := k.sub fun a q => .inl q
  exact ⟨tabs_kept b.tabs b.st k, st, Dp.same e b.w, Dp.same e b.p, Dp.same e b.h, e _ _ b.l, b.q.same e⟩
theorem Bs.ext (b : Bs K TL s c v1 v2 vh t u dh lp ps H n) (e : ExtN H H') (tb : Tabs TL H') : Bs K TL s c v1 v2 vh t u dh lp ps H' n :=
  ⟨tb, stm_ext e b.st, dp_ext (hide_ext e) b.w, dp_ext (hide_ext e) b.p, dp_ext (hide_ext e) b.h, hide_ext e _ _ b.l (fun ps z => nomatch z), parts_ext (hide_ext e) b.q⟩
theorem Bs.tr (b : Bs K TL s c v1 v2 vh t u dh lp ps H n) : Tr (NT s c TL) H := nt_tr b.tabs b.st
end

theorem cut_k (xs : List V) (j : Nat) : cutV xs none (some (j : Int)) = xs.take j := by
  unfold cutV
  rw [HT.sIx_none, HT.sIx_nat, List.drop_zero, Nat.sub_zero]
  by_cases h : j ≤ xs.length
  · rw [Nat.min_eq_left h]
  · rw [Nat.min_eq_right (by omega), List.take_length, List.take_of_length_le (by omega)]
theorem pl_len {t : T} {pl : List Nat} (h : pl ∈ plT t) : pl.length ≤ t.ht := by
  rw [← parts_places] at h
  obtain ⟨p, hp, rfl⟩ := List.mem_map.mp h
  exact parts_ht t p hp
theorem okS_ints : ∀ (pl : List Nat), okSs (nD pl) = true
  | [] => rfl
  | p :: pl => by
    show (okS (.int _) && okSs (nD pl)) = true
    rw [okS_ints pl]; rfl
theorem hD_ints : ∀ (pl : List Nat), hDs (nD pl) = 0
  | [] => rfl
  | p :: pl => by
    show max (hD (.int _)) (hDs (nD pl)) = 0
    rw [hD_ints pl]; rfl
theorem okS_pl {pl : List Nat} (h : pl.length ≤ 1000) : okS (.list (nD pl)) = true := by
  rw [okS, okS_ints, List.length_map, decide_eq_true (show pl.length ≤ 100000 by omega)]; rfl
theorem hD_pl (pl : List Nat) : hD (.list (nD pl)) = 1 := by rw [hD, hD_ints]
def plsD (t : T) : PyData := .list ((plT t).map fun pl => .list (nD pl))
theorem okSs_map {α : Type} (f : α → PyData) : ∀ (l : List α), (∀ x ∈ l, okS (f x) = true) → okSs (l.map f) = true
  | [], _ => rfl
  | x :: l, h => by rw [List.map_cons, okSs, h x (List.mem_cons_self ..), okSs_map f l fun y hy => h y (List.mem_cons_of_mem _ hy)]; rfl
theorem hDs_map {α : Type} (f : α → PyData) {B : Nat} : ∀ (l : List α), (∀ x ∈ l, hD (f x) ≤ B) → hDs (l.map f) ≤ B
  | [], _ => Nat.zero_le _
  | x :: l, h => by
    have h1 := h x (List.mem_cons_self ..)
    have h2 := hDs_map f l fun y hy => h y (List.mem_cons_of_mem _ hy)
    rw [List.map_cons, hDs]
    omega
theorem plsD_ok {t : T} (hz : t.sz ≤ 1000) (hh : t.ht ≤ 1000) : okS (plsD t) = true ∧ hD (plsD t) ≤ 2 := by
  refine ⟨?_, ?_⟩
  · rw [plsD, okS, List.length_map, plT_len, decide_eq_true (show t.sz ≤ 100000 by omega), okSs_map _ _ fun pl h => okS_pl (by have := pl_len h; omega)]; rfl
  · have := hDs_map (fun pl => PyData.list (nD pl)) (B := 1) (plT t) fun pl h => by rw [hD_pl]; exact Nat.le_refl _
    rw [plsD, hD]
    omega
mutual
theorem okS_dat : ∀ t : T, t.sz ≤ 50000 → okS t.dat = true
  | .v x, _ => rfl
  | .n x ks, h => by
    rw [T.sz] at h
    have hl := T.szs_len ks
    rw [T.dat, T.dats_map, okS, List.length_cons, List.length_map, decide_eq_true (show ks.length + 1 ≤ 100000 by omega), okSs, ← T.dats_map, okS_dats ks (by omega)]
    rfl
theorem okS_dats : ∀ ks : List T, T.szs ks ≤ 50000 → okSs (T.dats ks) = true
  | [], _ => rfl
  | k :: ks, h => by
    rw [T.szs] at h
    rw [T.dats, okSs, okS_dat k (by omega), okS_dats ks (by omega)]
    rfl
end
mutual
theorem hD_dat : ∀ t : T, hD t.dat ≤ t.ht
  | .v x => Nat.le_refl _
  | .n x ks => by
    have := hD_dats ks
    rw [T.dat, hD, hDs, T.ht]
    show max 0 _ + 1 ≤ _
    omega
theorem hD_dats : ∀ ks : List T, hDs (T.dats ks) ≤ T.hts ks
  | [] => Nat.le_refl _
  | k :: ks => by
    have h1 := hD_dat k
    have h2 := hD_dats ks
    rw [T.dats, hDs, T.hts]
    omega
end
theorem szs_set : ∀ {ks : List T} {i : Nat} {k k' : T} {B : Nat}, ks[i]? = some k → k'.sz ≤ k.sz + B → T.szs (ks.set i k') ≤ T.szs ks + B
  | x :: xs, 0, k, k', B, h, hb => by
    cases h
    rw [List.set_cons_zero, T.szs, T.szs]
    omega
  | x :: xs, i + 1, k, k', B, h, hb => by
    have := szs_set (ks := xs) (i := i) h hb
    rw [List.set_cons_succ, T.szs, T.szs]
    omega
theorem hts_set : ∀ {ks : List T} {i : Nat} {k k' : T} {B : Nat}, ks[i]? = some k → k'.ht ≤ k.ht + B → T.hts (ks.set i k') ≤ T.hts ks + B
  | x :: xs, 0, k, k', B, h, hb => by
    cases h
    rw [List.set_cons_zero, T.hts, T.hts]
    omega
  | x :: xs, i + 1, k, k', B, h, hb => by
    have := hts_set (ks := xs) (i := i) h hb
    rw [List.set_cons_succ, T.hts, T.hts]
    omega
theorem put_size : ∀ (ps : List Nat) (t u r : T), putP t ps u = some r → r.sz ≤ t.sz + u.sz ∧ r.ht ≤ t.ht + u.ht
  | [], t, u, r, h => by
    rw [putP_nil] at h
    cases h
    omega
  | p :: ps, .v x, u, r, h => by cases h
  | p :: ps, .n x ks, u, r, h => by
    rw [putP] at h
    cases hk : ks[p]? with
    | none => rw [hk] at h; cases h
    | some k =>
      rw [hk] at h
      cases hq : putP k ps u with
      | none => simp only [hq] at h; cases h
      | some k' =>
        simp only [hq] at h
        cases h
        obtain ⟨h1, h2⟩ := put_size ps k u k' hq
        have h3 := szs_set hk h1
        have h4 := hts_set hk h2
        rw [T.sz, T.sz, T.ht, T.ht]
        omega
theorem nD_inj : ∀ {a b : List Nat}, nD a = nD b → a = b
  | [], [], _ => rfl
  | [], _ :: _, h => by cases h
  | _ :: _, [], h => by cases h
  | x :: a, y :: b, h => by
    have h1 := List.cons.inj (show PyData.int (x : Int) :: nD a = PyData.int (y : Int) :: nD b from h)
    have h2 := PyData.int.inj h1.1
    rw [nD_inj h1.2, show x = y by omega]
theorem part_size (t : T) (p : List Nat × T) (hp : p ∈ partsT t) {a b : Nat} (ha : t.sz ≤ a) (hb : t.ht ≤ b) : p.2.sz ≤ a ∧ p.2.ht ≤ b := by
  have key : ∀ n (t : T), t.sz < n → ∀ p ∈ partsT t, p.2.sz ≤ t.sz ∧ p.2.ht ≤ t.ht := fun n => by
    induction n with
    | zero => exact fun t h => absurd h (Nat.not_lt_zero _)
    | succ n ih =>
      intro t h p hp
      cases t with
      | v x =>
        rw [partsT, List.mem_singleton] at hp
        subst hp
        exact ⟨Nat.le_refl _, Nat.le_refl _⟩
      | n x ks =>
        rw [partsT] at hp
        rcases List.mem_cons.mp hp with rfl | hp
        · exact ⟨Nat.le_refl _, Nat.le_refl _⟩
        · obtain ⟨j, k, q, h1, h2, rfl⟩ := partsTs_mem ks 0 p hp
          have hs := T.sz_mem (List.mem_of_getElem? h1)
          have hh := T.ht_mem (List.mem_of_getElem? h1)
          rw [T.sz] at h
          have := ih k (by omega) q h2
          rw [T.sz, T.ht]
          show q.2.sz ≤ _ ∧ q.2.ht ≤ _
          omega
  have := key (t.sz + 1) t (Nat.lt_succ_self _) p hp
  omega
/-- no place of the word -/
structure Bad (t : T) (d : PyData) : Prop where
  no : plP t d = none
  ok : okS d = true
  hd : hD d ≤ 3
theorem plP_list (t : T) (ds : List PyData) : plP t (.list ds) = atP t ds := by cases t <;> rfl
theorem plP_tuple (t : T) (ds : List PyData) : plP t (.tuple ds) = atP t ds := by cases t <;> rfl
def odds0 : List PyData := [.none, .int 5, .str "0", .dict [], .list [.none], .list [.bool true], .list [.int (-1)], .list [.str "0"], .list [.int 9], .list [.list [.int 0]]]
theorem bad0 {t : T} (h : aOk t = true) : ∀ d ∈ odds0, Bad t d := by
  intro d hd
  simp only [odds0, List.mem_cons, List.not_mem_nil, or_false] at hd
  rcases hd with rfl | rfl | rfl | rfl | rfl | rfl | rfl | rfl | rfl | rfl
  · exact ⟨plP_no rfl, rfl, by decide⟩
  · exact ⟨plP_no rfl, rfl, by decide⟩
  · exact ⟨plP_no rfl, rfl, by decide⟩
  · exact ⟨plP_no rfl, rfl, by decide⟩
  · exact ⟨(plP_list _ _).trans (bad_num rfl), rfl, by decide⟩
  · exact ⟨(plP_list _ _).trans (bad_num rfl), rfl, by decide⟩
  · exact ⟨(plP_list _ _).trans (bad_num rfl), rfl, by decide⟩
  · exact ⟨(plP_list _ _).trans (bad_num rfl), rfl, by decide⟩
  · exact ⟨(plP_list _ _).trans (bad_far h 9 (by decide) []), rfl, by decide⟩
  · exact ⟨(plP_list _ _).trans (bad_num rfl), rfl, by decide⟩
theorem bad7 {t : T} (h : aOk t = true) (hh : t.ht ≤ 100) {p : List Nat × T} (hp : p ∈ partsT t) : Bad t (.list (nD (p.1 ++ [7]))) :=
  ⟨(plP_list _ _).trans (bad_seven h hp), okS_pl (by have := parts_ht t p hp; simp; omega), by rw [hD_pl]; omega⟩
theorem badL {t : T} (hh : t.ht ≤ 100) {p : List Nat × T} (hp : p ∈ partsT t) (hl : leaf p.2 = true) : Bad t (.list (nD (p.1 ++ [0]))) :=
  ⟨(plP_list _ _).trans (bad_leaf hp hl), okS_pl (by have := parts_ht t p hp; simp; omega), by rw [hD_pl]; omega⟩
theorem DEs.app {K : PySem.W.Frag} {H : Hp} : ∀ {vs ws : List V} {ds es : List PyData}, DEs K H vs ds → DEs K H ws es → DEs K H (vs ++ ws) (ds ++ es)
  | _, _, _, _, .nil, b => b
  | _, _, _, _, .cons q a, b => .cons q (DEs.app a b)
theorem DEs.take {K : PySem.W.Frag} {H : Hp} : ∀ {vs : List V} {ds : List PyData} (n : Nat), DEs K H vs ds → DEs K H (vs.take n) (ds.take n)
  | _, _, 0, _ => .nil
  | _, _, n + 1, .nil => .nil
  | _, _, n + 1, .cons q a => .cons q (DEs.take n a)
theorem newl_de {K : PySem.W.Frag} {H H' : Hp} : ∀ {ys : List V} {pls : List (List Nat)}, Paired (NewL H H') ys pls → DEs K H' ys (pls.map fun pl => .list (nD pl))
  | _, _, .nil => .nil
  | _, _, .cons q r => by
    obtain ⟨a, rfl, _, h⟩ := q
    exact .cons (.lst (.inl (.inl h)) (DEs.of (nV_dp K H' _))) (newl_de r)

section
variable {TL : List (Addr × Str)} {s c : Addr} {v1 v2 vh : V} {t u : T} {dh : PyData} {lp : Addr} {ps : List V} {H' : Hp} {n : Nat} {x0 x1 x2 x3 x4 x5 x6 x7 x8 x9 x10 x11 x12 x13 : Option V} {Q : VK}
/-- [place for place, deep in parts] -/
theorem lc_places (b : Bs K TL s c v1 v2 vh t u dh lp ps H' n) (hz : t.sz ≤ 1000) (fin : ∀ Dl H3, Same H' H3 → DE K H3 (.ref Dl) (plsD t) → Q (.ref Dl) H3) :
    LcR (Itl K lp) H' (gTup K 2 (gCons (gName 7) (gCons (gName 8) gNil))) tYes (tVar 7) [7, 8] [x0, x1, x2, x3, x4, x5, x6, x7, x8, x9, x10, x11, x12, x13] Q := by
  have ly : ps.length = (partsT t).length := paired_len b.q
  have lp' := parts_len t
  refine lcp (K := K) (N := NT s c TL) b.tr (src_list (.inl (.inl (hide_same _ _ b.l)))) (by omega) (fun _ => true) (fun j => (fun p : List Nat × T => PyData.list (nD p.1)) ((partsT t).getD j ([], .v ""))) (fun j y H6 N6 Q2 Q3 hj e6 r6 tr6 hs6 q2 q3 => ?_) (fun Dl H6 ys6 nD' e6 hy6 da => ?_)
  · obtain ⟨z, hzj, hy6⟩ := GB.paired_get (b.q.same hs6) r6
    have ez : (partsT t).getD j ([], .v "") = z := by rw [List.getD_eq_getElem?_getD, hzj]; rfl
    rw [ez] at q2
    obtain ⟨A, L, wv, rfl, hA, hL, dw⟩ := hy6.ex
    refine g_pair (hide_same _ _ hA) rfl ?_
    walk_at "rd"
    refine ⟨rfl, iteT ?_⟩
    exact ⟨_, rfl, q2 _ H6 (Same.refl _) rfl (.lst (.inl (.inl hL)) (nV_dp K _ _))⟩
  · rw [ly, map_range (partsT t) (fun p => PyData.list (nD p.1)) ([], .v "")] at da
    refine fin Dl H6 e6 ?_
    have e7 : (partsT t).map (fun p => PyData.list (nD p.1)) = (plT t).map fun pl => PyData.list (nD pl) := by rw [← parts_places, List.map_map]; rfl
    rw [e7] at da
    exact .lst (.inl (.inl hy6)) (DEs.of (DpAll.same hide_same da))
end

theorem paired_range {α : Type} {R : V → α → Prop} {ys : List V} {zs : List α} {n : Nat} (hn : n = zs.length) (h : Paired (fun v i => ∃ z, zs[i]? = some z ∧ R v z) ys ((List.range n).filter fun _ => true)) : Paired R ys zs := by
  subst hn
  rw [List.filter_eq_self.mpr (fun _ _ => rfl)] at h
  have hl : ys.length = zs.length := by have := paired_len h; rw [List.length_range] at this; exact this
  refine paired_of_get hl fun m v z hv hz => ?_
  obtain ⟨m', hm', z', hz', q⟩ := GB.paired_get h hv
  have : m' = m := by
    have hlt : m < (List.range zs.length).length := (List.getElem?_eq_some_iff.mp hm').1
    rw [List.getElem?_range (by simpa using hlt)] at hm'
    exact (Option.some.inj hm').symm
  subst this
  rw [hz] at hz'
  cases hz'
  exact q
theorem paired_take {α β : Type} {R : α → β → Prop} : ∀ {xs : List α} {ys : List β} (n : Nat), Paired R xs ys → Paired R (xs.take n) (ys.take n)
  | _, _, 0, _ => .nil
  | _, _, n + 1, .nil => .nil
  | _, _, n + 1, .cons q a => .cons q (paired_take n a)

theorem ext_new {H H' : Hp} {p : Addr} (e : ExtN H H') (h : H' p = none) : ∀ o, H p = some o → ∃ ps, o = HO.tbl ps := fun o q => by
  by_cases n : ∀ ps, o ≠ .tbl ps
  · rw [e p o q n] at h
    cases h
  · exact Classical.byContradiction fun m => n fun ps z => m ⟨ps, z⟩
theorem ext_upd {H H' : Hp} {p : Addr} {u : HO} (e : ExtN H H') (h : ∀ o, H p = some o → ∃ ps, o = HO.tbl ps) : ExtN H (upd H' p u) := fun b o q n => by
  by_cases z : b = p
  · subst z
    obtain ⟨ps, rfl⟩ := h o q
    exact absurd rfl (n ps)
  · rw [upd_ne z]
    exact e b o q n
theorem tabs_upd {TL : List (Addr × Str)} {H : Hp} {p : Addr} {u : HO} {xs : List V} (t : Tabs TL H) (h : H p = some (.lst xs)) : Tabs TL (upd H p u) := fun q hq => by
  obtain ⟨ps, a1, a2, a3⟩ := t q hq
  refine ⟨ps, by rw [upd_ne (fun z => by rw [z, h] at a1; cases a1)]; exact a1, a2, fun pos cv hc => ?_⟩
  obtain ⟨c', e1, e2⟩ := a3 pos cv hc
  exact ⟨c', e1, by rw [upd_ne (fun z => by rw [z, h] at e2; unfold CodeO at e2; cases e2)]; exact e2⟩
end
end WD

-- text: W29
set_option Elab.async false
set_option linter.all false
set_option maxRecDepth 100000
set_option maxHeartbeats 1000000
namespace WD
open PySem PySem.Spec PyProof.Rows L2 GB GL LamX XR
open DB hiding isi1 isiT
local macro_rules | `(tactic| walk_at "rd") => `(tactic| (dsimp only [cxOf, Cx.nox, L2.start, tRet, tRetN, tCB, tCons, tNil, tC, tVar, tTup, tLst, tB, tTest, tAnd, tOr, tNot, tAndV, tOrV, tNotV, tIfS, tIf, tSeq, tNext, tDrop, tOp, tUn, tAsg, gName, gSub, tSl, tPart, tNoPart, tCall, tPar, tBM, tChain, tYes, StX.tStar, tFld, tNotN, tIsN, tDNotIn, tDIn, tDGet, tDGet2, tDNewK, gTup, gCons, gNil, tLockE, iKeys, XR.iZipTN, sFld, sDPut, iEnum, XR.iEnumK, XR.iEnumT, iList, RZ.iZipA, iTup, iRng1, iRng2, tMake, tPar, tPar3, tRevL, XR.tTwo3, List.length_cons, List.length_nil, List.set_cons_zero, List.set_cons_succ, List.nil_append, List.cons_append, List.append_nil]))
section
variable {P : Program} {w : World} {K : PySem.W.Frag} {mg : Str → Option Value} {base : Heap}

theorem ok_right (G : Glob K mg) {j : Nat} {TL : List (Addr × Str)} {cc Pt : Addr} {C : Nat → Addr} (D : DefC K mg "_law_word_right" st__law_word_right ["stream", "word", "part"] cc) (TBc : TabB base mg cc Pt) (hmT : (Pt, lamQ "_law_word_right") ∈ TL) (huT : ∀ p ∈ TL, p.1 = Pt → p.2 = lamQ "_law_word_right")
    (D_met : Def K mg "_law_d_met" st__law_d_met ["ask"]) (ER : Errs K mg C) {jw : Nat}
    (c__law_d_loose : Callee P w K mg base 13 "_law_d_loose" ["stream", "word"] (spDLoose K 12)) (c__law_d_parts : Callee P w K mg base 13 "_law_d_parts" ["word"] (spDParts K 12)) (c_places : CalleeX P w K mg base jw "places" ["word"] (spPlaces K (C 0) 12)) (c__law_same : Callee P w K mg base 13 "_law_same" ["found", "due"] (spSameT K 12))
    (c__law_draw : Callee P w K mg base 1 "_law_draw" ["stream", "many"] spDraw) (c_word_at : CalleeX P w K mg base jw "word_at" ["word", "place"] (spWordAt K (C 0) (C 1) 12)) (c_word_put : CalleeX P w K mg base jw "word_put" ["word", "place", "part"] (spWordPut K (C 0) (C 1) 12))
    (c__law_exchanged : Callee P w K mg base 13 "_law_exchanged" ["word", "place", "part"] (spWithPart K 12)) (c_depth : CalleeX P w K mg base jw "depth" ["word"] (spDepth K (C 0) 12)) (c_variables_of : CalleeX P w K mg base jw "variables_of" ["word"] (spVariables K (C 0) 12)) (c__law_depth : Callee P w K mg base 13 "_law_depth" ["word"] (spDepthIn K 12)) (c__law_d_variables : Callee P w K mg base 14 "_law_d_variables" ["words"] (spDVars K 12)) 
    (hj : jw + 2 ≤ j) (hj2 : 14 ≤ j) : CalleeG P w K mg base (j + 1) "_law_word_right" ["stream", "word", "part"] (spRight K TL) := by
  obtain ⟨f, fd, F, kp, b, m⟩ := D.ex
  have z_isinstance := G.isinstance
  have z_str := G.str
  have z_tuple := G.tuple
  have z_len := G.len
  have z_repr := G.repr
  refine ⟨f, fd, okGL F sc__law_word_right (fun vs H Q E h => ?_) (fun A outer s_ H vs Q E hr h => ?_), b, kp, m⟩
  · obtain ⟨s, c, v1, v2, t, u, n0, rfl, _⟩ := h
    rfl
  have hgd := hr.gd
  have hu66 : (A.deeper (envOfC "_law_word_right" (defScope st__law_word_right) s_.heap.objs.size f (.ref cc))).units + 66 < cLine := by have := hr.rm.un; omega
  have hr__law_d_loose := hr.rm.mono (show 13 ≤ j by omega)
  have hr__law_d_parts := hr.rm.mono (show 13 ≤ j by omega)
  have hr__law_same := hr.rm.mono (show 13 ≤ j by omega)
  have hr__law_exchanged := hr.rm.mono (show 13 ≤ j by omega)
  have hr__law_depth := hr.rm.mono (show 13 ≤ j by omega)
  have hr__law_d_variables := hr.rm.mono (show 14 ≤ j by omega)
  have hr__law_draw := hr.rm.mono (show 1 ≤ j by omega)
  have hr_places := hr.rm.mono (show jw ≤ j by omega)
  have hr_word_at := hr.rm.mono (show jw ≤ j by omega)
  have hr_word_put := hr.rm.mono (show jw ≤ j by omega)
  have hr_depth := hr.rm.mono (show jw ≤ j by omega)
  have hr_variables_of := hr.rm.mono (show jw ≤ j by omega)
  have hr_met : Room (jw + 2) _ := hr.rm.mono hj
  have le_word_at := Nat.le_refl jw
  have le_word_put := Nat.le_refl jw
  refine ⟨_, (pss_cons (ps_asg (pe_tup (pa_cons (pe_own c__law_d_loose hr__law_d_loose rfl (pa_cons (pv 0) (pa_cons (pv 1) pa_nil))) (pa_cons (pe_own c__law_d_parts hr__law_d_parts rfl (pa_cons (pv 1) pa_nil)) pa_nil))) (pg_tup rfl (pgs_cons (pg_name (i := 3) sc__law_word_right.nd rfl (Or.inr rfl)) (pgs_cons (pg_name (i := 4) sc__law_word_right.nd rfl (Or.inl rfl)) pgs_nil)))) (pss_cons (ps_par (i := 5) (j := 6) rfl sc__law_word_right.nd rfl rfl (by decide) rfl rfl (pa_cons (pe_callB (GL.call_repr hgd hu66) rfl z_repr (by decide +kernel) (pa_cons (pv 3) pa_nil)) (pa_cons (pe_ownX (E := fun _ _ _ => False) c_places hr_places rfl takes_none5 (fun _ _ _ _ z => z.elim) (pa_cons (pv 3) pa_nil)) pa_nil)) rfl) (pss_cons (ps_if (pt_not (pt_val (pe_own c__law_same hr__law_same rfl (pa_cons (pv 6) (pa_cons (pe_lc (own := [("place", 7), ("deep", 8)]) (g := (gTup K 2 (gCons (gName 7) (gCons (gName 8) gNil)))) (tt := tYes) rfl sc__law_word_right.nd (pi_list (pv 4)) (blkOk_by (N := ["stream", "word", "part", "handed", "parts", "was", "told", "place", "deep", "asked", "found", "some", "odds", "odd"]) (sc := defScope st__law_word_right) (by decide +kernel)) (fun _ _ _ _ _ => (pg_tup rfl (pgs_cons (pg_name (i := 7) sc__law_word_right.nd rfl (Or.inl rfl)) (pgs_cons (pg_name (i := 8) sc__law_word_right.nd rfl (Or.inl rfl)) pgs_nil)))) (fun _ _ _ _ _ => pts_nil) (fun _ _ _ _ _ => (pv 7))) pa_nil))))) (pss_one (ps_ret pe_bl)) pss_nil) (pss_cons (ps_for PassesOwn.never rfl (pi_list (pv 6)) (pg_name (i := 7) sc__law_word_right.nd rfl (Or.inl rfl)) (pss_one (ps_expr (pe_bm PySem.F.plainAttrs_list PySem.F.slot_list_append PySem.F.type_list_append mt_append (pv 7) (pa_cons pe_str pa_nil))))) (pss_cons (ps_expr (pe_bm PySem.F.plainAttrs_list PySem.F.slot_list_append PySem.F.type_list_append mt_append (pv 6) (pa_cons pe_str pa_nil))) (pss_cons (ps_if (pt_not (pt_val (pe_own c__law_same hr__law_same rfl (pa_cons (pe_ownX (E := fun _ _ _ => False) c_places hr_places rfl takes_none5 (fun _ _ _ _ z => z.elim) (pa_cons (pv 1) pa_nil)) (pa_cons (pe_lc (own := [("place", 7), ("deep", 8)]) (g := (gTup K 2 (gCons (gName 7) (gCons (gName 8) gNil)))) (tt := tYes) rfl sc__law_word_right.nd (pi_list (pv 4)) (blkOk_by (N := ["stream", "word", "part", "handed", "parts", "was", "told", "place", "deep", "asked", "found", "some", "odds", "odd"]) (sc := defScope st__law_word_right) (by decide +kernel)) (fun _ _ _ _ _ => (pg_tup rfl (pgs_cons (pg_name (i := 7) sc__law_word_right.nd rfl (Or.inl rfl)) (pgs_cons (pg_name (i := 8) sc__law_word_right.nd rfl (Or.inl rfl)) pgs_nil)))) (fun _ _ _ _ _ => pts_nil) (fun _ _ _ _ _ => (pv 7))) pa_nil))))) (pss_one (ps_ret pe_bl)) pss_nil) (pss_cons (ps_for PassesOwn.never rfl (pi_list (pv 4)) (pg_tup rfl (pgs_cons (pg_name (i := 7) sc__law_word_right.nd rfl (Or.inl rfl)) (pgs_cons (pg_name (i := 8) sc__law_word_right.nd rfl (Or.inl rfl)) pgs_nil))) (pss_cons (ps_set (i := 9) sc__law_word_right.nd rfl (Or.inl rfl) (pe_ifExp (pt_cmpR op_eq (pe_own c__law_draw hr__law_draw rfl (pa_cons (pv 0) (pa_cons pe_int pa_nil))) pe_int (nomark _)) (pe_callTy call_tuple_of rfl z_tuple boot_tuple (pa_cons (pv 7) pa_nil)) (pv 7))) (pss_cons (ps_set (i := 10) sc__law_word_right.nd rfl (Or.inl rfl) (pe_lst (pa_cons (pe_ownX (E := fun _ _ _ => False) c_word_at hr_word_at rfl takes_none5 (fun _ _ _ _ z => z.elim) (pa_cons (pv 3) (pa_cons (pv 9) pa_nil))) (pa_cons (pe_ownX (E := fun _ _ _ => False) c_word_put hr_word_put rfl takes_none5 (fun _ _ _ _ z => z.elim) (pa_cons (pv 3) (pa_cons (pv 9) (pa_cons (pe_own c__law_d_loose hr__law_d_loose rfl (pa_cons (pv 0) (pa_cons (pv 2) pa_nil))) pa_nil)))) pa_nil)))) (pss_one (ps_if (pt_not (pt_val (pe_own c__law_same hr__law_same rfl (pa_cons (pv 10) (pa_cons (pe_lst (pa_cons (pv 8) (pa_cons (pe_own c__law_exchanged hr__law_exchanged rfl (pa_cons (pv 1) (pa_cons (pv 7) (pa_cons (pv 2) pa_nil)))) pa_nil))) pa_nil))))) (pss_one (ps_ret pe_bl)) pss_nil))))) (pss_cons (ps_setLc (i := 11) (own := [("place", 7), ("deep", 8)]) (g := (gTup K 2 (gCons (gName 7) (gCons (gName 8) gNil)))) (tt := tYes) rfl sc__law_word_right.nd rfl rfl (sw_true rfl rfl rfl (by decide +kernel)) (pi_list (pv 4)) (blkOk_by (N := ["stream", "word", "part", "handed", "parts", "was", "told", "place", "deep", "asked", "found", "some", "odds", "odd"]) (sc := defScope st__law_word_right) (by decide +kernel)) (fun _ _ _ _ _ => (pg_tup rfl (pgs_cons (pg_name (i := 7) sc__law_word_right.nd rfl (Or.inl rfl)) (pgs_cons (pg_name (i := 8) sc__law_word_right.nd rfl (Or.inl rfl)) pgs_nil)))) (fun _ _ _ _ _ => pts_nil) (fun _ _ _ _ _ => (pv 7))) (pss_cons (ps_set (i := 12) sc__law_word_right.nd rfl (Or.inl rfl) (pe_op op_cat (pe_lst (pds_cons pd_non (pds_cons pd_int (pds_cons pd_str (pds_cons pd_dict (pds_cons (pd_lst (pds_cons pd_non pds_nil) (by decide)) (pds_cons (pd_lst (pds_cons pd_bl pds_nil) (by decide)) (pds_cons (pd_lst (pds_cons pd_neg pds_nil) (by decide)) (pds_cons (pd_lst (pds_cons pd_str pds_nil) (by decide)) (pds_cons (pd_lst (pds_cons pd_int pds_nil) (by decide)) (pds_cons (pd_lst (pds_cons (pd_lst (pds_cons pd_int pds_nil) (by decide)) pds_nil) (by decide)) pds_nil))))))))))) (pe_lc (own := [("place", 7)]) (g := (gName 7)) (tt := tYes) rfl sc__law_word_right.nd (pi_list (pe_slice sl_list (pv 11) po_none (po_some pe_int))) (blkOk_by (N := ["stream", "word", "part", "handed", "parts", "was", "told", "place", "deep", "asked", "found", "some", "odds", "odd"]) (sc := defScope st__law_word_right) (by decide +kernel)) (fun _ _ _ _ _ => (pg_name (i := 7) sc__law_word_right.nd rfl (Or.inl rfl))) (fun _ _ _ _ _ => pts_nil) (fun _ _ _ _ _ => (pe_op op_cat (pv 7) (pe_lst (pa_cons pe_int pa_nil))))))) (pss_cons (ps_for PassesOwn.never rfl (pi_list (pe_op op_cat (pv 12) (pe_slice sl_list (pe_lc (own := [("place", 7), ("deep", 8)]) (g := (gTup K 2 (gCons (gName 7) (gCons (gName 8) gNil)))) rfl sc__law_word_right.nd (pi_list (pv 4)) (blkOk_by (N := ["stream", "word", "part", "handed", "parts", "was", "told", "place", "deep", "asked", "found", "some", "odds", "odd"]) (sc := defScope st__law_word_right) (by decide +kernel)) (fun _ _ _ _ _ => (pg_tup rfl (pgs_cons (pg_name (i := 7) sc__law_word_right.nd rfl (Or.inl rfl)) (pgs_cons (pg_name (i := 8) sc__law_word_right.nd rfl (Or.inl rfl)) pgs_nil)))) (fun _ _ _ _ _ => (pts_one (PW.pt (pw_or (pt_val (pe_callB (show CallR _ _ (rIsi K) from call_isi) rfl z_isinstance boot_isinstance (pa_cons (pv 8) (pa_cons (pe_bltn (v := .ty "str") rfl z_str boot_str rfl) pa_nil)))) (pw_or1 (pt_cmpR op_eq (pe_callB (show CallR _ _ (rLenQ K) from call_len_seq) rfl z_len PySem.boot_len (pa_cons (pv 8) pa_nil)) pe_int (nomark _))))))) (fun _ _ _ _ _ => (pe_op op_cat (pv 7) (pe_lst (pa_cons pe_int pa_nil))))) po_none (po_some pe_int)))) (pg_name (i := 13) sc__law_word_right.nd rfl (Or.inr rfl)) (pss_cons (ps_set (i := 10) sc__law_word_right.nd rfl (Or.inl rfl) (pe_lst (pa_cons (pe_met D_met ER rfl TBc rfl hmT huT hr_met (lamS_by (sc := defScope st__law_word_right) (by decide +kernel)) rfl (fun _ _ _ _ _ => rfl) (fun A outer s H E f c' hrl => (pe_ownX (E := E) c_word_at (hrl.mono le_word_at) rfl (takes_of rfl rfl rfl rfl) (fun _ _ _ _ h => h) (pa_cons (pv 3) (pa_cons (pv 13) pa_nil))))) pa_nil))) (pss_cons (ps_expr (pe_bm PySem.F.plainAttrs_list PySem.F.slot_list_append PySem.F.type_list_append mt_append (pv 10) (pa_cons (pe_met D_met ER rfl TBc rfl hmT huT hr_met (lamS_by (sc := defScope st__law_word_right) (by decide +kernel)) rfl (fun _ _ _ _ _ => rfl) (fun A outer s H E f c' hrl => (pe_ownX (E := E) c_word_put (hrl.mono le_word_put) rfl (takes_of rfl rfl rfl rfl) (fun _ _ _ _ h => h) (pa_cons (pv 3) (pa_cons (pv 13) (pa_cons pe_non pa_nil)))))) pa_nil))) (pss_one (ps_if (pt_not (pt_val (pe_own c__law_same hr__law_same rfl (pa_cons (pv 10) (pa_cons (pe_op op_rep (pe_lst (pa_cons (pe_tup (pa_cons pe_str (pa_cons (pv 13) pa_nil))) pa_nil)) pe_int) pa_nil))))) (pss_one (ps_ret pe_bl)) pss_nil))))) (pss_cons (ps_set (i := 10) sc__law_word_right.nd rfl (Or.inl rfl) (pe_lst (pa_cons (pe_ownX (E := fun _ _ _ => False) c_depth hr_depth rfl takes_none5 (fun _ _ _ _ z => z.elim) (pa_cons (pv 3) pa_nil)) (pa_cons (pe_ownX (E := fun _ _ _ => False) c_variables_of hr_variables_of rfl takes_none5 (fun _ _ _ _ z => z.elim) (pa_cons (pv 3) pa_nil)) pa_nil)))) (pss_cons (ps_if (pt_not (pt_val (pe_own c__law_same hr__law_same rfl (pa_cons (pv 10) (pa_cons (pe_lst (pa_cons (pe_own c__law_depth hr__law_depth rfl (pa_cons (pv 1) pa_nil)) (pa_cons (pe_own c__law_d_variables hr__law_d_variables rfl (pa_cons (pe_lst (pa_cons (pv 1) pa_nil)) pa_nil)) pa_nil))) pa_nil))))) (pss_one (ps_ret pe_bl)) pss_nil) (pss_cons (ps_expr (pe_bm PySem.F.plainAttrs_list PySem.F.slot_list_append PySem.F.type_list_append mt_append (pe_ix ix_list (pv 10) pe_int (fun _ _ => rfl)) (pa_cons pe_str pa_nil))) (pss_one (ps_ret (pe_and (pe_own c__law_same hr__law_same rfl (pa_cons (pe_ownX (E := fun _ _ _ => False) c_variables_of hr_variables_of rfl takes_none5 (fun _ _ _ _ z => z.elim) (pa_cons (pv 3) pa_nil)) (pa_cons (pe_own c__law_d_variables hr__law_d_variables rfl (pa_cons (pe_lst (pa_cons (pv 1) pa_nil)) pa_nil)) pa_nil))) (pe_one (pe_cmpR op_eq (pe_callB (GL.call_repr hgd hu66) rfl z_repr (by decide +kernel) (pa_cons (pv 3) pa_nil)) (pv 5) (nomark _))))))))))))))))))), ?_⟩
  obtain ⟨s, c, v1, v2, t, u, n0, rfl, hT, hst, hn0, hw, hp, hto, huo, htz, hth, huz, huh, k⟩ := h
  have hM : ∀ a, two s c a → NT s c TL a := fun a q => .inl q
  have hN := nt_tr hT hst
  have pln : ∀ pl ∈ plT t, pl.length ≤ 8 := fun pl h => Nat.le_trans (pl_len h) (by omega)
  obtain ⟨pok, phd⟩ := plsD_ok (t := t) (by omega) (by omega)
  refine q_seq (fun σ' H' => ∃ vh dh lp ps, σ' = [some (.ref s), some v1, some v2, some vh, some (.ref lp), none, none, none, none, none, none, none, none, none] ∧ Lo t dh ∧ Bs K TL s c v1 v2 vh t u dh lp ps H' (n0 + t.sz)) (fun Z z => ?_) (fun σ1 H1 hp1 => ?_)
  · walk_at "rd"
    refine ⟨_, rfl, _, rfl, NT s c TL, s, c, v1, t, n0, rfl, hM, hN, hst, by omega, hw, by omega, by omega, fun dh vh H1 lo k1 st1 d1 => ?_⟩
    have e1 : Same (hide (NT s c TL) H) (hide (NT s c TL) H1) := k1.sub hM
    have N1 := nt_tr (tabs_kept hT hst k1) st1
    refine ⟨_, rfl, NT s c TL, v1, t, rfl, N1, Dp.same e1 hw, by omega, by omega, fun H2 lp ps e2 hn2 hl2 pa2 => ⟨by decide, fun q hq => ?_⟩⟩
    have e3 := same_new hq (.tup [vh, .ref lp])
    refine g_pair upd_same rfl (z _ _ ⟨vh, dh, lp, ps, rfl, lo, ?_⟩)
    have e23 := e2.trans e3
    exact ⟨(tabs_kept hT hst k1).ext e23, st1.same e23, Dp.same (e1.trans (hide_mono e23)) hw, Dp.same (e1.trans (hide_mono e23)) hp, Dp.same (hide_mono e23) d1, (hide_off (N1.off hn2)).trans (e3 _ _ hl2), pa2.same (hide_mono e3)⟩
  obtain ⟨vh, dh, lp, ps, rfl, lo, b1⟩ := hp1
  have sml := lo_smlA lo hto
  have chk := lo_chk lo hto
  obtain ⟨shl, shd, shp⟩ := sml.shown (by omega) (by omega)
  have dh12 : dh.depth < 12 := by have := sml.depth; omega
  have CH : ∀ {H' : Hp} {n : Nat}, Bs K TL s c v1 v2 vh t u dh lp ps H' n → Tr (NT s c TL) H' ∧ DE K (hide (NT s c TL) H') vh dh ∧ okz dh = true ∧ dh.depth < 12 := fun b => ⟨b.tr, DE.of b.h, sml.okz, dh12⟩
  have chk1 : ∀ t', chkW dh = some t' → t = t' := fun t' h => by rw [chk] at h; exact Option.some.inj h
  have chk0 : ∀ {P : Prop}, chkW dh = none → P := fun h => by rw [chk] at h; cases h
  refine q_seq (fun σ' H' => ∃ tl ys, σ' = [some (.ref s), some v1, some v2, some vh, some (.ref lp), some (.str dh.shown), some (.ref tl), none, none, none, none, none, none, none] ∧ Same H1 H' ∧ H1 tl = none ∧ H' tl = some (.lst ys) ∧ Paired (NewL H1 H') ys (plT t)) (fun Z z => ?_) (fun σ2 H2 hp2 => ?_)
  · walk_at "rd"
    refine ⟨_, rfl, vh, dh, rfl, Dp.same hide_same b1.h, sml.shw, shd, shp, shl, ?_⟩
    obtain ⟨c1, c2, c3, c4⟩ := CH b1
    refine ⟨_, rfl, vh, rfl, NT s c TL, dh, c1, c2, c3, c4, fun t' ht' => ?_, chk0⟩
    obtain rfl := chk1 t' ht'
    exact ⟨by omega, by omega, fun H2 l ys e hn hl pr => ⟨_, _, rfl, z _ _ ⟨l, ys, rfl, e, hn, hl, pr⟩⟩⟩
  obtain ⟨tl, ys, rfl, e2, tn, ht, pr⟩ := hp2
  have b2 := b1.same e2
  refine q_when false (fun Q1 q1 => ?_) (fun hb => nomatch hb) (fun _ H3 e3 => ?_)
  · walk_at "rd"
    refine ⟨_, rfl, ?_⟩
    refine rd_lc ?_
    walk_at "rd"
    refine ⟨_, rfl, lp, rfl, ⟨_, .inl (.inl (hide_same _ _ b2.l))⟩, ?_⟩
    refine lc_places b2 (by omega) fun Dl H3 e3 d3 => ?_
    have dt : DE K H3 (.ref tl) (plsD t) := .lst (.inl (.inl (e3 _ _ ht))) (DEs.same e3 (newl_de pr))
    exact ⟨_, _, _, rfl, dt, d3, pok, by omega, fun H4 e4 => ⟨_, rfl, q1 _ (e3.trans e4)⟩⟩
  have b3 := b2.same e3
  -- the places are changed
  refine q_seq (fun σ' H' => ∃ u7, σ' = [some (.ref s), some v1, some v2, some vh, some (.ref lp), some (.str dh.shown), some (.ref tl), u7, none, none, none, none, none, none] ∧ Same H1 H' ∧ H' tl = some (.lst ys)) (fun Z z => ?_) (fun σ4 H4 hp4 => ?_)
  · refine rd_for ?_
    walk_at "rd"
    refine ⟨_, rfl, tl, rfl, ⟨_, .inl (.inl (e3 _ _ ht))⟩, ?_⟩
    have lys : ys.length = t.sz := by rw [paired_len pr, plT_len]
    refine forq (sp_list (K := K) (xs := ys)) (fun i σ' H' => ∃ u7, σ' = [some (.ref s), some v1, some v2, some vh, some (.ref lp), some (.str dh.shown), some (.ref tl), u7, none, none, none, none, none, none] ∧ Same H1 H' ∧ H' tl = some (.lst ys) ∧ ∀ y ∈ ys, ∃ a zs, y = .ref a ∧ a ≠ tl ∧ H1 a = none ∧ H' a = some (.lst zs) ∧ zs.length ≤ 10 + i) ⟨_, rfl, e2.trans e3, e3 _ _ ht, fun y hy => ?_⟩ (fun i σ' H' q => ?_) (fun i y σ' H' H'' hi q e r => ?_) (fun σ' H' q => ?_)
    · obtain ⟨m, hm⟩ := List.getElem?_of_mem hy
      obtain ⟨pl, hpl, a, rfl, an, ha⟩ := GB.paired_get pr hm
      refine ⟨a, nV pl, rfl, fun q => ?_, an, e3 _ _ ha, ?_⟩
      · subst q
        rw [ht] at ha
        have ha := HO.lst.inj (Option.some.inj ha)
        rw [ha] at hy
        obtain ⟨_, _, q⟩ := List.mem_map.mp hy
        cases q
      · have := pln pl (List.mem_of_getElem? hpl)
        rw [List.length_map]
        omega
    · obtain ⟨_, _, _, h, _⟩ := q
      exact .inl (.inl h)
    · obtain ⟨u7, rfl, f1, f2, f3⟩ := q
      obtain ⟨r1, rfl⟩ := r
      have hy := List.mem_of_getElem? r1
      obtain ⟨a, zs, rfl, an, a1, ha, hl⟩ := f3 y hy
      walk_at "rd"
      refine ⟨_, rfl, .inl ⟨rfl, _, .inl (.inl (e _ _ ha))⟩, a, _, _, rfl, rfl, e _ _ ha, by rw [sizeLine_eq]; omega, ?_⟩
      refine ⟨_, rfl, same_upd a1 (f1.trans e) _, by rw [upd_ne (Ne.symm an)]; exact e _ _ f2, fun y' hy' => ?_⟩
      obtain ⟨a', zs', rfl, an', a1', ha', hl'⟩ := f3 y' hy'
      by_cases q : a' = a
      · subst q
        refine ⟨a', _, rfl, an', a1', upd_same, ?_⟩
        rw [List.length_append]
        show zs.length + 1 ≤ _
        omega
      · exact ⟨a', zs', rfl, an', a1', by rw [upd_ne q]; exact e _ _ ha', by omega⟩
    · obtain ⟨u7, rfl, f1, f2, f3⟩ := q
      exact z _ _ ⟨u7, rfl, f1, f2⟩
  obtain ⟨u7, rfl, e4, ht4⟩ := hp4
  refine q_seq (fun σ' H' => σ' = [some (.ref s), some v1, some v2, some vh, some (.ref lp), some (.str dh.shown), some (.ref tl), u7, none, none, none, none, none, none] ∧ Same H1 H') (fun Z z => ?_) (fun σ5 H5 hp5 => ?_)
  · have lys : ys.length = t.sz := by rw [paired_len pr, plT_len]
    walk_at "rd"
    exact ⟨_, rfl, .inl ⟨rfl, _, .inl (.inl ht4)⟩, tl, _, _, rfl, rfl, ht4, by rw [sizeLine_eq]; omega, z _ _ ⟨rfl, same_upd tn e4 _⟩⟩
  obtain ⟨rfl, e5⟩ := hp5
  have b5 := b1.same e5
  have smw := lo_smlA (lo_dat t) hto
  have chw := lo_chk (lo_dat t) hto
  refine q_when false (fun Q1 q1 => ?_) (fun hb => nomatch hb) (fun _ H6 e6 => ?_)
  · walk_at "rd"
    refine ⟨_, rfl, v1, rfl, NT s c TL, t.dat, b5.tr, DE.of b5.w, smw.okz, by have := smw.depth; omega, fun t' ht' => ?_, fun h => by rw [chw] at h; cases h⟩
    rw [chw] at ht'
    cases ht'
    refine ⟨by omega, by omega, fun H6 l2 ys2 e6 n6 h6 pr6 => ?_⟩
    refine rd_lc ?_
    walk_at "rd"
    have b6 := b5.same e6
    refine ⟨_, rfl, lp, rfl, ⟨_, .inl (.inl (hide_same _ _ b6.l))⟩, ?_⟩
    refine lc_places b6 (by omega) fun Dl H7 e7 d7 => ?_
    have dt : DE K H7 (.ref l2) (plsD t) := .lst (.inl (.inl (e7 _ _ h6))) (DEs.same e7 (newl_de pr6))
    exact ⟨_, _, _, rfl, dt, d7, pok, by omega, fun H8 e8 => ⟨_, rfl, q1 _ ((e6.trans e7).trans e8)⟩⟩
  have b6 := b5.same e6
  -- each place
  refine q_seq (fun σ' H' => ∃ u7 u8 u9 u10 n2, σ' = [some (.ref s), some v1, some v2, some vh, some (.ref lp), some (.str dh.shown), some (.ref tl), u7, u8, u9, u10, none, none, none] ∧ Bs K TL s c v1 v2 vh t u dh lp ps H' n2 ∧ n2 ≤ n0 + 4000) (fun Z z => ?_) (fun σ7 H7 hp7 => ?_)
  · refine rd_for ?_
    walk_at "rd"
    refine ⟨_, rfl, lp, rfl, ⟨_, .inl (.inl (hide_same _ _ b6.l))⟩, ?_⟩
    have lps : ps.length = t.sz := by rw [paired_len b6.q, parts_len]
    refine forq (sp_list (K := K) (xs := ps)) (fun i σ' H' => ∃ u7 u8 u9 u10, σ' = [some (.ref s), some v1, some v2, some vh, some (.ref lp), some (.str dh.shown), some (.ref tl), u7, u8, u9, u10, none, none, none] ∧ Bs K TL s c v1 v2 vh t u dh lp ps H' (n0 + t.sz + i * (1 + u.sz))) ⟨_, _, _, _, rfl, by rw [Nat.zero_mul]; exact b6⟩ (fun i σ' H' q => ?_) (fun i y σ' H' H'' hi q e r => ?_) (fun σ' H' q => ?_)
    · obtain ⟨_, _, _, _, _, b⟩ := q
      exact .inl (.inl (hide_same _ _ b.l))
    · obtain ⟨w7, w8, w9, w10, rfl, b⟩ := q
      obtain ⟨r1, rfl⟩ := r
      have bA := b.same e
      have hbd : i * (1 + u.sz) ≤ 120 * 14 := Nat.mul_le_mul (by omega) (by omega)
      obtain ⟨zp, hz, pa⟩ := GB.paired_get bA.q r1
      obtain ⟨A1, L, wv, rfl, hA, hL, dw⟩ := pa.ex
      have hzm := List.mem_of_getElem? hz
      have hpa := parts_at t zp hzm
      have hpl := parts_ht t zp hzm
      have hpz := part_ok hto hzm
      refine g_pair (hide_same _ _ hA) rfl ?_
      refine q_seq (fun σ' H' => ∃ ya da, σ' = [some (.ref s), some v1, some v2, some vh, some (.ref lp), some (.str dh.shown), some (.ref tl), some (.ref L), some wv, some ya, w10, none, none, none] ∧ Bs K TL s c v1 v2 vh t u dh lp ps H' (n0 + t.sz + i * (1 + u.sz) + 1) ∧ DE K (hide (NT s c TL) H') ya da ∧ (da = .list (nD zp.1) ∨ da = .tuple (nD zp.1)) ∧ hide (NT s c TL) H' L = some (.lst (nV zp.1)) ∧ Dp K (hide (NT s c TL) H') wv zp.2.dat) (fun Z1 z1 => ?_) (fun σ8 H8 hp8 => ?_)
      · walk_at "rd"
        refine ⟨_, rfl, s, c, 2, _, rfl, bA.st, by omega, by decide, by decide, fun r H9 r0 r1' kp st => ⟨rfl, _, rfl, ?_⟩⟩
        have bB := bA.kept kp st
        have eB : Same (hide (NT s c TL) H'') (hide (NT s c TL) H9) := kp.sub hM
        have hL9 := eB _ _ hL
        refine ite_b (fun _ => ?_) (fun _ => ?_)
        · refine ⟨_, rfl, L, _, rfl, .inl ⟨.inl (.inl (hide_same _ _ hL9)), fun q hq => ?_⟩⟩
          have eq := same_new hq (.tup (nV zp.1))
          exact z1 _ _ ⟨_, _, rfl, bB.same eq, .tup (.inl (.inl (hide_upd (bB.tr.off hq)))) (DEs.of (nV_dp K _ _)), .inr rfl, hide_mono eq _ _ hL9, Dp.same (eB.trans (hide_mono eq)) dw⟩
        · exact ⟨_, rfl, z1 _ _ ⟨_, _, rfl, bB, .lst (.inl (.inl hL9)) (DEs.of (nV_dp K _ _)), .inl rfl, hL9, Dp.same eB dw⟩⟩
      obtain ⟨ya, da, rfl, b8, dya, hda, hL8, dw8⟩ := hp8
      have plz : plP t da = some zp.2 := by rcases hda with rfl | rfl; · exact (plP_list _ _).trans hpa
                                            · exact (plP_tuple _ _).trans hpa
      obtain ⟨ps0, r0, hps0, hput⟩ := at_put _ t zp.2 u hpa
      have hps1 := nD_inj hps0
      subst hps1
      have hsz := put_size _ _ _ _ hput
      refine q_seq (fun σ' H' => ∃ fl va vb, σ' = [some (.ref s), some v1, some v2, some vh, some (.ref lp), some (.str dh.shown), some (.ref tl), some (.ref L), some wv, some ya, some (.ref fl), none, none, none] ∧ Bs K TL s c v1 v2 vh t u dh lp ps H' (n0 + t.sz + (i + 1) * (1 + u.sz)) ∧ hide (NT s c TL) H' L = some (.lst (nV zp.1)) ∧ Dp K (hide (NT s c TL) H') wv zp.2.dat ∧ H' fl = some (.lst [va, vb]) ∧ Dp K (hide (NT s c TL) H') va zp.2.dat ∧ Dp K (hide (NT s c TL) H') vb r0.dat) (fun Z1 z1 => ?_) (fun σ9 H9 hp9 => ?_)
      · walk_at "rd"
        obtain ⟨c1, c2, c3, c4⟩ := CH b8
        refine ⟨_, rfl, _, rfl, NT s c TL, vh, ya, da, rfl, DE.same hide_same dya, dh, c1, c2, c3, c4, fun t' ht' => ?_, chk0⟩
        obtain rfl := chk1 t' ht'
        refine ⟨by omega, by omega, fun u' hu' Ha va ea dva => ?_, fun h => by rw [plz] at h; cases h⟩
        rw [plz] at hu'
        cases hu'
        have ba := b8.same ea
        refine ⟨_, rfl, _, rfl, _, rfl, _, rfl, NT s c TL, s, c, v2, u, _, rfl, hM, ba.tr, ba.st, by omega, ba.p, by omega, by omega, fun d2 vq Hb lo2 kb stb dq => ?_⟩
        have bb := ba.kept kb stb
        have eb : Same (hide (NT s c TL) Ha) (hide (NT s c TL) Hb) := kb.sub hM
        have e8b := (hide_mono (N := NT s c TL) ea).trans eb
        have sm2 := lo_sml lo2 huo
        have as2 := lo_asW lo2 huo
        obtain ⟨c1, c2, c3, c4⟩ := CH bb
        refine ⟨NT s c TL, vh, ya, da, vq, d2, rfl, DE.same hide_same (DE.same e8b dya), DE.of dq, sm2.okz, by have := sm2.depth; omega, dh, c1, c2, c3, c4, fun t' ht' => ?_, chk0⟩
        obtain rfl := chk1 t' ht'
        refine ⟨by omega, by omega, fun u' hu' => ⟨fun h => ?_, fun h => ⟨_, as2⟩, fun w' ps' r' hw' hd' hp' => ?_⟩, fun h => by rw [plz] at h; cases h⟩
        · unfold chkW at h
          rw [as2] at h
          cases h
        · rw [as2] at hw'
          cases hw'
          have ep : ps' = zp.1 := by
            rcases hd' with rfl | rfl
            · rcases hda with q | q
              · exact nD_inj (PyData.list.inj q)
              · cases q
            · rcases hda with q | q
              · cases q
              · exact nD_inj (PyData.tuple.inj q)
          subst ep
          rw [hput] at hp'
          cases hp'
          refine ⟨by omega, fun Hc vb ec dvb => ⟨by decide, fun fl hfl => ?_⟩⟩
          have ef := same_new hfl (.lst [va, vb])
          have ecf := ec.trans ef
          have hall := e8b.trans (hide_mono (N := NT s c TL) ecf)
          refine z1 _ _ ⟨fl, va, vb, rfl, ?_, hall _ _ hL8, Dp.same hall dw8, upd_same, Dp.same (eb.trans (hide_mono ecf)) dva, Dp.same (hide_mono ef) dvb⟩
          have bc := bb.same ecf
          have en : n0 + t.sz + i * (1 + u.sz) + 1 + u.sz = n0 + t.sz + (i + 1) * (1 + u.sz) := by rw [Nat.add_mul, Nat.one_mul]; omega
          rw [en] at bc
          exact bc
      obtain ⟨fl, va, vb, rfl, b9, hL9, dw9, hfl, dva, dvb⟩ := hp9
      refine if_t false (fun Q1 q1 => ?_) (fun hb => nomatch hb) (fun _ H10 e10 => ?_)
      · walk_at "rd"
        refine ⟨_, rfl, _, rfl, _, rfl, _, rfl, _, rfl, NT s c TL, v1, L, v2, t, u, zp.1, r0, rfl, b9.tr, b9.w, .inl (.inl (hide_same _ _ hL9)), b9.p, hput, by omega, by decide, by omega, fun v' Ha ea da' => ⟨by decide, fun q hq => ?_⟩⟩
        have eq := same_new hq (.lst [wv, v'])
        have eaq := ea.trans eq
        have hh := hide_mono (N := NT s c TL) eaq
        have hz2 : zp.2.sz ≤ 2000 ∧ zp.2.ht ≤ 8 := part_size t zp hzm (by omega) (by omega)
        refine ⟨_, _, .list [zp.2.dat, r0.dat], rfl, .lst (.inl (.inl (eaq _ _ hfl))) (.cons (DE.of (Dp.same hide_same (Dp.same hh dva))) (.cons (DE.of (Dp.same hide_same (Dp.same hh dvb))) .nil)), .lst (.inl (.inl upd_same)) (.cons (DE.of (Dp.same hide_same (Dp.same hh dw9))) (.cons (DE.of (Dp.same hide_same (Dp.same (hide_mono eq) da'))) .nil)), ?_, ?_, fun H5 e5 => ⟨_, rfl, q1 _ (eaq.trans e5)⟩⟩
        · rw [okS, okSs, okSs, okS_dat zp.2 (by omega), okS_dat r0 (by omega)]; rfl
        · have h1 := hD_dat zp.2
          have h2 := hD_dat r0
          rw [hD, hDs, hDs, hDs]
          omega
      · exact ⟨_, _, _, _, rfl, b9.same e10⟩
    · obtain ⟨w7, w8, w9, w10, rfl, b⟩ := q
      have hbd : ps.length * (1 + u.sz) ≤ 121 * 14 := Nat.mul_le_mul (by omega) (by omega)
      exact z _ _ ⟨_, _, _, _, _, rfl, b, by omega⟩
  obtain ⟨u7, u8, u9, u10, n2, rfl, b7, hn2⟩ := hp7
  -- places as such, and what is none
  refine q_seq (fun σ' H' => ∃ sm sms, σ' = [some (.ref s), some v1, some v2, some vh, some (.ref lp), some (.str dh.shown), some (.ref tl), u7, u8, u9, u10, some (.ref sm), none, none] ∧ Bs K TL s c v1 v2 vh t u dh lp ps H' n2 ∧ H' sm = some (.lst sms) ∧ Paired (fun v (z : List Nat × T) => ∃ a, v = V.ref a ∧ hide (NT s c TL) H' a = some (.lst (nV z.1))) sms (partsT t)) (fun Z z => ?_) (fun σ8 H8 hp8 => ?_)
  · have ly : ps.length = (partsT t).length := paired_len b7.q
    have lpt := parts_len t
    walk_at "rd"
    refine rd_lc ?_
    walk_at "rd"
    refine ⟨_, rfl, lp, rfl, ⟨_, .inl (.inl (hide_same _ _ b7.l))⟩, ?_⟩
    refine lcr (N := NT s c TL) b7.tr (src_list (.inl (.inl (hide_same _ _ b7.l)))) (by omega) (fun _ => true) (fun j h v => ∃ z, (partsT t)[j]? = some z ∧ ∃ a, v = V.ref a ∧ h a = some (.lst (nV z.1))) (fun j h h' v e q => by obtain ⟨z, h1, a, h2, h3⟩ := q; exact ⟨z, h1, a, h2, e _ _ h3⟩) (fun j y H6 N6 Q2 Q3 hj e6 r6 tr6 hs6 q2 q3 => ?_) (fun Dl H6 ys6 nD' e6 hy6 da => ?_)
    · obtain ⟨zp, hzj, hy6⟩ := GB.paired_get (b7.q.same hs6) r6
      obtain ⟨A1, L, wv, rfl, hA, hL, dw⟩ := hy6.ex
      refine g_pair (hide_same _ _ hA) rfl ?_
      walk_at "rd"
      refine ⟨rfl, iteT ?_⟩
      exact ⟨_, rfl, q2 _ H6 (Same.refl _) rfl ⟨zp, hzj, L, rfl, hL⟩⟩
    · exact z _ _ ⟨Dl, ys6, rfl, b7.same e6, hy6, paired_range (R := fun v (z : List Nat × T) => ∃ a, v = V.ref a ∧ hide (NT s c TL) H6 a = some (.lst (nV z.1))) ly da⟩
  obtain ⟨sm, sms, rfl, b8, hsm, psm⟩ := hp8
  refine q_seq (fun σ' H' => ∃ od xs ds, σ' = [some (.ref s), some v1, some v2, some vh, some (.ref lp), some (.str dh.shown), some (.ref tl), u7, u8, u9, u10, some (.ref sm), some (.ref od), none] ∧ Bs K TL s c v1 v2 vh t u dh lp ps H' n2 ∧ H' od = some (.lst xs) ∧ DEs K H' xs ds ∧ (∀ d ∈ ds, Bad t d) ∧ ds.length ≤ 20) (fun Z z => ?_) (fun σ9 H9 hp9 => ?_)
  · walk_at "rd"
    intro xs0 Ha ea h0'
    have h0 : DEs K Ha xs0 odds0 := by
      have := h0' no0 (tr0 _)
      rw [hide0] at this
      exact this
    refine ⟨by rw [h0.length]; decide, fun p hp => ?_⟩
    have eap := ea.trans (same_new hp (.lst xs0))
    have bp := b8.same eap
    refine rd_lc ?_
    walk_at "rd"
    refine ⟨_, rfl, 3, rfl, sm, _, rfl, .inl (.inl (eap _ _ hsm)), fun p2 hp2 => ?_⟩
    rw [show (3 : Int) = ((3 : Nat) : Int) from rfl, cut_k] at *
    have e2' := eap.trans (same_new hp2 (.lst (sms.take 3)))
    have bq := b8.same e2'
    refine ⟨p2, rfl, ⟨_, .inl (.inl upd_same)⟩, ?_⟩
    have p3 := paired_take 3 psm
    have l3 : (sms.take 3).length = ((partsT t).take 3).length := paired_len p3
    have l3' : ((partsT t).take 3).length ≤ 3 := List.length_take_le ..
    refine lcp (K := K) (N := NT s c TL) bq.tr (src_list (.inl (.inl upd_same))) (by omega) (fun _ => true) (fun j => (fun p : List Nat × T => PyData.list (nD (p.1 ++ [7]))) (((partsT t).take 3).getD j ([], .v ""))) (fun j y H6 N6 Q2 Q3 hj e6 r6 tr6 hs6 q2 q3 => ?_) (fun Dl H6 ys6 nD' e6 hy6 da => ?_)
    · obtain ⟨zp, hzj, a, rfl, ha⟩ := GB.paired_get p3 r6
      have ez : ((partsT t).take 3).getD j ([], .v "") = zp := by rw [List.getD_eq_getElem?_getD, hzj]; rfl
      rw [ez] at q2
      have ha6 : H6 a = some (.lst (nV zp.1)) := e6 _ _ (e2' _ _ (hide_same _ _ ha))
      have hzl := parts_ht t zp (List.mem_of_mem_take (List.mem_of_getElem? hzj))
      walk_at "rd"
      refine ⟨rfl, iteT ?_⟩
      refine ⟨_, rfl, by decide, fun q hq => ?_⟩
      have eq := same_new hq (.lst [.int 7])
      refine ⟨a, q, _, _, rfl, rfl, eq _ _ ha6, upd_same, ?_, fun r hr => ?_⟩
      · rw [List.length_map, sizeLine_eq]; simp; omega
      · have er := same_new hr (.lst (nV zp.1 ++ [V.int 7]))
        refine q2 _ _ (eq.trans er) rfl (.lst (.inl (.inl (hide_upd ((tr6.same eq).off hr)))) ?_)
        have := nV_dp K (hide N6 (upd (upd H6 q (.lst [.int 7])) r (.lst (nV zp.1 ++ [V.int 7])))) (zp.1 ++ [7])
        have e1 : nV (zp.1 ++ [7]) = nV zp.1 ++ [V.int 7] := by rw [nV, List.map_append]; rfl
        rw [e1] at this
        exact this
    · rw [l3, map_range ((partsT t).take 3) (fun p => PyData.list (nD (p.1 ++ [7]))) ([], .v "")] at da
      have e3 := e2'.trans e6
      have hp6 : H6 p = some (.lst xs0) := e6 _ _ (same_new hp2 _ _ _ upd_same)
      have lx0 := h0.length
      have ly6 : ys6.length = ((partsT t).take 3).length := by have := DpAll.length da; rw [List.length_map] at this; exact this
      have l10 : xs0.length = 10 := lx0
      refine ⟨p, Dl, _, _, rfl, rfl, hp6, hy6, by rw [sizeLine_eq]; omega, fun od hod => ?_⟩
      have eo := same_new hod (.lst (xs0 ++ ys6))
      have eaH : Same Ha H6 := ((same_new hp _).trans (same_new hp2 _)).trans e6
      refine z _ _ ⟨od, _, odds0 ++ ((partsT t).take 3).map (fun p => PyData.list (nD (p.1 ++ [7]))), rfl, b8.same (e3.trans eo), upd_same, DEs.app (DEs.same (eaH.trans eo) h0) (DEs.same eo (DEs.of (DpAll.same hide_same da))), fun d hd => ?_, by rw [List.length_append, List.length_map]; show 10 + _ ≤ 20; omega⟩
      rcases List.mem_append.mp hd with hd | hd
      · exact bad0 hto d hd
      · obtain ⟨zp, hzp, rfl⟩ := List.mem_map.mp hd
        exact bad7 hto (by omega) (List.mem_of_mem_take hzp)
  obtain ⟨od, xs, ds, rfl, b9, hod, dxs, hbad, hdl⟩ := hp9
  -- what is none is refused
  refine q_seq (fun σ' H' => ∃ u10 u13, σ' = [some (.ref s), some v1, some v2, some vh, some (.ref lp), some (.str dh.shown), some (.ref tl), u7, u8, u9, u10, some (.ref sm), some (.ref od), u13] ∧ Bs K TL s c v1 v2 vh t u dh lp ps H' n2) (fun Z z => ?_) (fun σ10 H10 hp10 => ?_)
  · have ly : ps.length = (partsT t).length := paired_len b9.q
    have lpt := parts_len t
    refine rd_for ?_
    walk_at "rd"
    refine ⟨_, rfl, ?_⟩
    refine rd_lc ?_
    walk_at "rd"
    refine ⟨_, rfl, lp, rfl, ⟨_, .inl (.inl (hide_same _ _ b9.l))⟩, ?_⟩
    refine lcp (K := K) (N := NT s c TL) b9.tr (src_list (.inl (.inl (hide_same _ _ b9.l)))) (by omega) (fun j => (fun p : List Nat × T => leaf p.2) ((partsT t).getD j ([], .v ""))) (fun j => (fun p : List Nat × T => PyData.list (nD (p.1 ++ [0]))) ((partsT t).getD j ([], .v ""))) (fun j y H6 N6 Q2 Q3 hj e6 r6 tr6 hs6 q2 q3 => ?_) (fun Dl Ha ys6 nD' ea hy6 da => ?_)
    · obtain ⟨zp, hzj, hy6⟩ := GB.paired_get (b9.q.same hs6) r6
      have ez : (partsT t).getD j ([], .v "") = zp := by rw [List.getD_eq_getElem?_getD, hzj]; rfl
      rw [ez] at q2 q3
      obtain ⟨A1, L, wv, rfl, hA, hL, dw⟩ := hy6.ex
      have hzl := parts_ht t zp (List.mem_of_getElem? hzj)
      refine g_pair (hide_same _ _ hA) rfl ?_
      have fin : leaf zp.2 = true → ∀ (Q : VK), (∀ y H4, Same H6 H4 → Dp K (hide N6 H4) y (.list (nD (zp.1 ++ [0]))) → Q y H4) → ∀ (q : Addr), H6 q = none → ∀ r, upd H6 q (.lst [V.int 0]) r = none → Q (.ref r) (upd (upd H6 q (.lst [V.int 0])) r (.lst (nV zp.1 ++ [V.int 0]))) := fun _ Q hQ q hq r hr => by
        have eq := same_new hq (.lst [V.int 0])
        have er := same_new hr (.lst (nV zp.1 ++ [V.int 0]))
        refine hQ _ _ (eq.trans er) (.lst (.inl (.inl (hide_upd ((tr6.same eq).off hr)))) ?_)
        have := nV_dp K (hide N6 (upd (upd H6 q (.lst [V.int 0])) r (.lst (nV zp.1 ++ [V.int 0])))) (zp.1 ++ [0])
        have e1 : nV (zp.1 ++ [0]) = nV zp.1 ++ [V.int 0] := by rw [nV, List.map_append]; rfl
        rw [e1] at this
        exact this
      walk_at "rd"
      refine ⟨rfl, ?_⟩
      refine ⟨_, rfl, isi1 (DE.of (Dp.same hide_same dw)) (kb_str _) ⟨_, rfl, ?_⟩⟩
      rw [isV_str]
      have elt : leaf zp.2 = true → ∃ v, ([some (V.ref s), some v1, some v2, some vh, some (V.ref lp), some (V.str dh.shown), some (V.ref tl), some (V.ref L), some wv, u9, u10, some (V.ref sm), some (V.ref od), none] : List (Option V))[7]? = some (some v) ∧ [(0 : Int)].length ≤ sizeLine ∧ ∀ (p : Addr), H6 p = none → ∃ l b xs zs, v = V.ref l ∧ V.ref p = V.ref b ∧ upd H6 p (HO.lst [V.int 0]) l = some (HO.lst xs) ∧ upd H6 p (HO.lst [V.int 0]) b = some (HO.lst zs) ∧ xs.length + zs.length ≤ sizeLine ∧ ∀ (p_1 : Addr), upd H6 p (HO.lst [V.int 0]) p_1 = none → Q2 (V.ref p_1) (upd (upd H6 p (HO.lst [V.int 0])) p_1 (HO.lst (xs ++ zs))) := fun hl => by
        refine ⟨_, rfl, by decide, fun q hq => ?_⟩
        refine ⟨L, q, _, _, rfl, rfl, same_new hq _ _ _ (hide_same _ _ hL), upd_same, ?_, fun r hr => ?_⟩
        · rw [List.length_map, sizeLine_eq]; simp; omega
        · exact fin hl Q2 (fun y H4 e4 d4 => q2 y H4 e4 hl d4) q hq r hr
      refine ite_b (fun hc => ?_) (fun hc => ?_)
      · have hl : leaf zp.2 = true := by
          cases hz2 : zp.2 with
          | v x => rfl
          | n x ks => rw [hz2] at hc; cases hc
        exact iteT (elt hl)
      · cases hz2 : zp.2 with
        | v x => rw [hz2] at hc; cases hc
        | n x ks =>
          have dw' := dw
          rw [hz2] at dw'
          obtain ⟨wa, ws, rfl, hws, hwk⟩ := word_n (N := no0) (H := hide N6 H6) (by rw [hide0]; exact dw')
          rw [hide0] at hws hwk
          have hwl : ws.length = ks.length := by have := DpAll.length hwk; rw [List.length_map] at this; exact this
          refine ⟨_, rfl, wa, _, rfl, .inr (Same.tupL hide_same hws), rfl, _, rfl, ?_⟩
          rw [dec_int]
          refine ite_b (fun e1 => ?_) (fun e1 => ?_)
          · have e2 : ks = [] := by
              have := eq_of_beq e1
              rw [List.length_cons, hwl] at this
              exact List.eq_nil_of_length_eq_zero (by omega)
            have hl : leaf zp.2 = true := by rw [hz2, e2]; rfl
            exact elt hl
          · refine q3 H6 (Same.refl _) ?_
            show leaf zp.2 = false
            rw [hz2]
            show ks.isEmpty = false
            cases ks with
            | nil => rw [List.length_cons, hwl] at e1; cases e1
            | cons _ _ => rfl
    · rw [ly, filter_range_map (partsT t) (fun p => leaf p.2) (fun p => PyData.list (nD (p.1 ++ [0]))) ([], .v "")] at da
      refine ⟨3, rfl, Dl, _, rfl, .inl (.inl hy6), fun p2 hp2 => ?_⟩
      rw [show (3 : Int) = ((3 : Nat) : Int) from rfl, cut_k] at *
      have eb := ea.trans (same_new hp2 (.lst (ys6.take 3)))
      refine ⟨od, p2, _, _, rfl, rfl, eb _ _ hod, upd_same, ?_, fun q hq => ?_⟩
      · have h1 := dxs.length
        have h2 : (ys6.take 3).length ≤ 3 := List.length_take_le ..
        rw [sizeLine_eq]; omega
      have eq := same_new hq (.lst (xs ++ ys6.take 3))
      have hall := eb.trans eq
      generalize hdz : ds ++ (((partsT t).filter fun p => leaf p.2).map fun p => PyData.list (nD (p.1 ++ [0]))).take 3 = dz
      have hq2 : upd (upd Ha p2 (.lst (ys6.take 3))) q (.lst (xs ++ ys6.take 3)) q = some (.lst (xs ++ ys6.take 3)) := upd_same
      have hzs : DEs K (upd (upd Ha p2 (.lst (ys6.take 3))) q (.lst (xs ++ ys6.take 3))) (xs ++ ys6.take 3) dz := by
        rw [← hdz]
        exact DEs.app (DEs.same hall dxs) (DEs.take 3 (DEs.same ((same_new hp2 _).trans eq) (DEs.of (DpAll.same hide_same da))))
      have hbz : ∀ d ∈ dz, Bad t d := fun d hd => by
        rw [← hdz] at hd
        rcases List.mem_append.mp hd with hd | hd
        · exact hbad d hd
        · obtain ⟨zp, hzp, rfl⟩ := List.mem_map.mp (List.mem_of_mem_take hd)
          obtain ⟨m1, m2⟩ := List.mem_filter.mp hzp
          exact badL (by omega) m1 m2
      have bz := b9.same hall
      have hzl : (xs ++ ys6.take 3).length ≤ 30 := by
        have h1 := dxs.length
        have h2 : (ys6.take 3).length ≤ 3 := List.length_take_le ..
        rw [List.length_append]; omega
      refine ⟨q, rfl, ⟨_, .inl (.inl hq2)⟩, ?_⟩
      revert hq2 hzs bz hzl
      generalize xs ++ ys6.take 3 = zs
      generalize upd (upd Ha p2 (.lst (ys6.take 3))) q (.lst zs) = Hz
      intro hq2 hzs bz hzl
      refine forq (sp_list (K := K) (xs := zs)) (fun i σ' H' => ∃ u10 u13, σ' = [some (.ref s), some v1, some v2, some vh, some (.ref lp), some (.str dh.shown), some (.ref tl), u7, u8, u9, u10, some (.ref sm), some (.ref od), u13] ∧ ExtN Hz H' ∧ Tabs TL H') ⟨_, _, rfl, ExtN.refl _, bz.tabs⟩ (fun i σ' H' q' => ?_) (fun i y σ' H' H'' hi q' e r => ?_) (fun σ' H' q' => ?_)
      · obtain ⟨_, _, _, en, _⟩ := q'
        exact .inl (.inl (en _ _ hq2 fun ps z => nomatch z))
      · obtain ⟨w10, w13, rfl, en, tb⟩ := q'
        obtain ⟨r1, rfl⟩ := r
        obtain ⟨d, hd, dv⟩ := hzs.get r1
        have bd := hbz d (List.mem_of_getElem? hd)
        have en1 := en.trans (ExtN.of e)
        have tb1 := tb.ext e
        have bA := bz.ext en1 tb1
        refine q_seq (fun σ' H' => ∃ fl p1, σ' = [some (.ref s), some v1, some v2, some vh, some (.ref lp), some (.str dh.shown), some (.ref tl), u7, u8, u9, some (.ref fl), some (.ref sm), some (.ref od), some y] ∧ ExtN Hz H' ∧ Tabs TL H' ∧ H' fl = some (.lst [.ref p1]) ∧ H' p1 = some (.tup [.str "place", y]) ∧ (∀ o, Hz fl = some o → ∃ ps, o = HO.tbl ps)) (fun Z1 z1 => ?_) (fun σb Hb hpb => ?_)
        · walk_at "rd"
          refine ⟨tb1, fun Hc nc tc => ?_⟩
          have enc := en1.trans nc
          have bc := bA.ext nc tc
          have dvc := de_ext enc dv
          obtain ⟨c1, c2, c3, c4⟩ := CH bc
          refine ⟨_, rfl, _, rfl, NT s c TL, vh, y, d, rfl, dvc, dh, c1, c2, c3, c4, fun t' ht' => ?_, chk0⟩
          obtain rfl := chk1 t' ht'
          refine ⟨by omega, by omega, fun u' hu' => (by rw [bd.no] at hu'; cases hu'), fun _ Hd ed => met_place ER fun p1 He ee hp1 => ⟨by decide, fun fl hfl => ?_⟩⟩
          have ef := same_new hfl (.lst [.ref p1])
          have eall := (ed.trans ee).trans ef
          exact z1 _ _ ⟨fl, p1, rfl, enc.trans (ExtN.of eall), tc.ext eall, upd_same, ef _ _ hp1, ext_new (enc.trans (ExtN.of (ed.trans ee))) hfl⟩
        obtain ⟨fl, p1, rfl, enb, tbb, hfl, hp1, hfr⟩ := hpb
        refine q_seq (fun σ' H' => ∃ p2, σ' = [some (.ref s), some v1, some v2, some vh, some (.ref lp), some (.str dh.shown), some (.ref tl), u7, u8, u9, some (.ref fl), some (.ref sm), some (.ref od), some y] ∧ ExtN Hz H' ∧ Tabs TL H' ∧ H' fl = some (.lst [.ref p1, .ref p2]) ∧ H' p1 = some (.tup [.str "place", y]) ∧ H' p2 = some (.tup [.str "place", y])) (fun Z1 z1 => ?_) (fun σc Hc hpc => ?_)
        · have bB := bz.ext enb tbb
          walk_at "rd"
          refine ⟨_, rfl, .inl ⟨rfl, _, .inl (.inl hfl)⟩, tbb, fun Hc nc tc => ?_⟩
          have enc := enb.trans nc
          have bc := bB.ext nc tc
          have dvc := de_ext enc dv
          obtain ⟨c1, c2, c3, c4⟩ := CH bc
          refine ⟨_, rfl, _, rfl, NT s c TL, vh, y, d, .non, .none, rfl, dvc, .non, rfl, by decide, dh, c1, c2, c3, c4, fun t' ht' => ?_, chk0⟩
          obtain rfl := chk1 t' ht'
          refine ⟨by omega, by omega, fun u' hu' => (by rw [bd.no] at hu'; cases hu'), fun _ Hd ed => met_place ER fun p2 He ee hp2 => ?_⟩
          have ede := ed.trans ee
          have hfl' := ede _ _ (nc _ _ hfl fun ps z => nomatch z)
          have hp1' := ede _ _ (nc _ _ hp1 fun ps z => nomatch z)
          have n1 : p1 ≠ fl := fun q => by subst q; rw [hp1] at hfl; cases hfl
          have n2 : p2 ≠ fl := fun q => by subst q; rw [hp2] at hfl'; cases hfl'
          refine ⟨fl, _, _, rfl, rfl, hfl', by rw [sizeLine_eq]; exact (by decide : 1 < 16777216), ?_⟩
          refine z1 _ _ ⟨p2, rfl, ext_upd (enc.trans (ExtN.of ede)) hfr, tabs_upd (tc.ext ede) hfl', upd_same, by rw [upd_ne n1]; exact hp1', by rw [upd_ne n2]; exact hp2⟩
        obtain ⟨p2', rfl, enc, tbc, hfl2, hp12, hp22⟩ := hpc
        refine if_t false (fun Q1 q1 => ?_) (fun hb => nomatch hb) (fun _ Hd ed => ?_)
        · walk_at "rd"
          refine ⟨_, rfl, _, rfl, by decide, fun p3 hp3 => ⟨by decide, fun l3 hl3 => ?_⟩⟩
          have e3 := same_new hp3 (.tup [.str "place", y])
          have e4 := same_new hl3 (.lst [.ref p3])
          refine ⟨l3, 2, _, rfl, rfl, upd_same, by decide, by decide, by rw [sizeLine_eq]; exact (by decide : 2 ≤ 16777216), fun l4 hl4 => ?_⟩
          have e5 := same_new hl4 (.lst (List.replicate (2 : Int).toNat [V.ref p3]).flatten)
          have e345 := (e3.trans e4).trans e5
          have dvc := de_ext (enc.trans (ExtN.of e345)) dv
          have hdd := bd.hd
          refine ⟨_, _, .list [.tuple [.str "place", d], .tuple [.str "place", d]], rfl, .lst (.inl (.inl (e345 _ _ hfl2))) (.cons (.tup (.inl (.inl (e345 _ _ hp12))) (.cons (.str _) (.cons dvc .nil))) (.cons (.tup (.inl (.inl (e345 _ _ hp22))) (.cons (.str _) (.cons dvc .nil))) .nil)), ?_, ?_, ?_, fun H5 e5' => ⟨_, rfl, q1 _ (e345.trans e5')⟩⟩
          · have h3 := (e4.trans e5) _ _ upd_same
            exact .lst (xs := [.ref p3, .ref p3]) (.inl (.inl upd_same)) (.cons (.tup (.inl (.inl h3)) (.cons (.str _) (.cons dvc .nil))) (.cons (.tup (.inl (.inl h3)) (.cons (.str _) (.cons dvc .nil))) .nil))
          · simp only [okS, okSs, bd.ok]
            rfl
          · simp only [hD, hDs]
            omega
        · exact ⟨_, _, rfl, enc.trans (ExtN.of ed), tbc.ext ed⟩
      · obtain ⟨w10, w13, rfl, en, tb⟩ := q'
        exact z _ _ ⟨_, _, rfl, bz.ext en tb⟩
  obtain ⟨u10, u13, rfl, b10⟩ := hp10
  -- depth and variables
  have hts : T.szs [t] ≤ 5000 := by rw [T.szs, T.szs]; omega
  have hvo : onceS (varsOf [t]) = metP t [] := by rw [met_once]; unfold varsOf; simp
  have hml := met_len t []
  have okStrs : ∀ l : List Str, okS (.list (l.map PyData.str)) = true ∨ ¬ l.length ≤ 1000 := fun l => by
    by_cases h : l.length ≤ 1000
    · left
      rw [okS, List.length_map, decide_eq_true (show l.length ≤ 100000 by omega), okSs_map _ _ fun _ _ => rfl]; rfl
    · exact .inr h
  have okV : okS (.list ((metP t []).map PyData.str)) = true := (okStrs _).resolve_right fun h => h (by simp at hml; omega)
  have hdV : hD (.list ((metP t []).map PyData.str)) = 1 := by
    have := hDs_map PyData.str (B := 0) (metP t []) fun _ _ => Nat.le_refl _
    rw [hD]
    omega
  have dV : ∀ {H' : Hp} {l : Addr}, H' l = some (.lst ((metP t []).map V.str)) → DE K H' (.ref l) (.list ((metP t []).map PyData.str)) := fun h => .lst (.inl (.inl h)) (DEs.of (DpAll.of_strs K _ _))
  refine q_seq (fun σ' H' => ∃ fl vl, σ' = [some (.ref s), some v1, some v2, some vh, some (.ref lp), some (.str dh.shown), some (.ref tl), u7, u8, u9, some (.ref fl), some (.ref sm), some (.ref od), u13] ∧ Same H10 H' ∧ H10 vl = none ∧ H' fl = some (.lst [.int (t.dp : Nat), .ref vl]) ∧ H' vl = some (.lst ((metP t []).map V.str))) (fun Z z => ?_) (fun σ11 H11 hp11 => ?_)
  · walk_at "rd"
    obtain ⟨c1, c2, c3, c4⟩ := CH b10
    refine ⟨_, rfl, vh, rfl, NT s c TL, dh, c1, c2, c3, c4, fun t' ht' => ?_, chk0⟩
    obtain rfl := chk1 t' ht'
    refine ⟨by omega, by omega, fun Ha ea => ?_⟩
    obtain ⟨c1, c2, c3, c4⟩ := CH (b10.same ea)
    refine ⟨_, rfl, vh, rfl, NT s c TL, dh, c1, c2, c3, c4, fun t' ht' => ?_, chk0⟩
    obtain rfl := chk1 t' ht'
    exact ⟨by omega, by omega, fun Hb vl eb hn hv => ⟨by decide, fun fl hfl => z _ _ ⟨fl, vl, rfl, (ea.trans eb).trans (same_new hfl _), none_of_none ea hn, upd_same, same_new hfl _ _ _ hv⟩⟩⟩
  obtain ⟨fl, vl, rfl, e11, hvn, hfl, hvl⟩ := hp11
  have b11 := b10.same e11
  refine q_when false (fun Q1 q1 => ?_) (fun hb => nomatch hb) (fun _ H12 e12 => ?_)
  · walk_at "rd"
    refine ⟨_, rfl, _, rfl, NT s c TL, v1, t, rfl, b11.tr, b11.w, by omega, by omega, fun Ha ea => ?_⟩
    refine ⟨_, rfl, by decide, fun l0 hl0 => ?_⟩
    have ea0 := ea.trans (same_new hl0 (.lst [v1]))
    have ba := b11.same ea0
    refine ⟨NT s c TL, l0, [v1], [t], rfl, ba.tr, .inl (.inl upd_same), .cons ba.w .nil, fun t' ht' => ?_, hts, fun Hb l2 eb hn2 hl2 => ⟨by decide, fun q hq => ?_⟩⟩
    · rw [List.mem_singleton] at ht'
      subst ht'
      omega
    have eq := same_new hq (.lst [.int (t.dp : Nat), .ref l2])
    have eall := (ea0.trans eb).trans eq
    rw [hvo] at hl2
    refine ⟨_, _, .list [.int (t.dp : Nat), .list ((metP t []).map PyData.str)], rfl, .lst (.inl (.inl (eall _ _ hfl))) (.cons (.int _) (.cons (dV (eall _ _ hvl)) .nil)), .lst (.inl (.inl upd_same)) (.cons (.int _) (.cons (dV (eq _ _ hl2)) .nil)), ?_, ?_, fun H5 e5 => ⟨_, rfl, q1 _ (eall.trans e5)⟩⟩
    · rw [okS, okSs, okSs, okV]
      rfl
    · have h1 : hDs ((metP t []).map PyData.str) = 0 := by rw [hD] at hdV; omega
      simp only [hD, hDs, h1]
      omega
  have hfl12 := e12 _ _ hfl
  refine q_seq (fun σ' H' => σ' = [some (.ref s), some v1, some v2, some vh, some (.ref lp), some (.str dh.shown), some (.ref tl), u7, u8, u9, some (.ref fl), some (.ref sm), some (.ref od), u13] ∧ Same H10 H') (fun Z z => ?_) (fun σ13 H13 hp13 => ?_)
  · walk_at "rd"
    refine ⟨_, rfl, fl, _, 1, _, rfl, rfl, .inl (.inl hfl12), atI_nat (j := 1) rfl, .inl ⟨rfl, _, .inl (.inl (e12 _ _ hvl))⟩, ?_⟩
    refine ⟨vl, _, _, rfl, rfl, e12 _ _ hvl, ?_, z _ _ ⟨rfl, same_upd hvn (e11.trans e12) _⟩⟩
    rw [List.length_map, sizeLine_eq]
    simp at hml
    omega
  obtain ⟨rfl, e13⟩ := hp13
  have b13 := b10.same e13
  walk_at "rd"
  obtain ⟨c1, c2, c3, c4⟩ := CH b13
  refine ⟨_, rfl, vh, rfl, NT s c TL, dh, c1, c2, c3, c4, fun t' ht' => ?_, chk0⟩
  obtain rfl := chk1 t' ht'
  refine ⟨by omega, by omega, fun Ha l1 ea hn1 hl1 => ?_⟩
  refine ⟨_, rfl, by decide, fun l0 hl0 => ?_⟩
  have ea0 := ea.trans (same_new hl0 (.lst [v1]))
  have ba := b13.same ea0
  refine ⟨NT s c TL, l0, [v1], [t], rfl, ba.tr, .inl (.inl upd_same), .cons ba.w .nil, fun t' ht' => ?_, hts, fun Hb l2 eb hn2 hl2 => ?_⟩
  · rw [List.mem_singleton] at ht'
    subst ht'
    omega
  rw [hvo] at hl2
  have hl1' := eb _ _ (same_new hl0 (.lst [v1]) _ _ hl1)
  refine ⟨_, _, _, rfl, dV hl1', dV hl2, okV, by omega, fun Hc ec => ⟨_, rfl, iteT ?_⟩⟩
  have bc := ba.same (eb.trans ec)
  refine ⟨_, rfl, vh, dh, rfl, Dp.same hide_same bc.h, sml.shw, shd, shp, shl, ?_⟩
  refine ⟨_, rfl, rfl, ?_⟩
  rw [decide_eq_true rfl]
  exact k _ bc.tabs (bc.st.mono (by omega))
end
end WD

-- text: W30
set_option Elab.async false
set_option linter.all false
set_option maxRecDepth 100000
set_option maxHeartbeats 1000000
namespace WD
open PySem PySem.Spec PyProof.Rows L2 GB GL LamX XR
open DB hiding isi1 isiT
local macro_rules | `(tactic| walk_at "rd") => `(tactic| (dsimp only [cxOf, Cx.nox, L2.start, tRet, tRetN, tCB, tCons, tNil, tC, tVar, tTup, tLst, tB, tTest, tAnd, tOr, tNot, tAndV, tOrV, tNotV, tIfS, tIf, tSeq, tNext, tDrop, tOp, tUn, tAsg, gName, gSub, tSl, tPart, tNoPart, tCall, tPar, tBM, tChain, tYes, StX.tStar, tFld, tNotN, tIsN, tDNotIn, tDIn, tDGet, tDGet2, tDNewK, gTup, gCons, gNil, tLockE, iKeys, XR.iZipTN, sFld, sDPut, iEnum, XR.iEnumK, XR.iEnumT, iList, RZ.iZipA, iTup, iRng1, iRng2, tMake, tPar, tPar3, tRevL, XR.tTwo3, List.length_cons, List.length_nil, List.set_cons_zero, List.set_cons_succ, List.nil_append, List.cons_append, List.append_nil]))
section
variable {P : Program} {w : World} {K : PySem.W.Frag} {mg : Str → Option Value} {base : Heap}
abbrev st_law : Stmt := top 57
theorem sc_law : FnScope ["script", "stream", "turn", "variables", "word", "held", "odd", "found", "ask"] ["script"] (defScope st_law) := ⟨rfl, rfl, rfl, by decide +kernel, rfl, by decide +kernel, by decide +kernel⟩

/-- the scope of the comprehension in law -/
def lawCompSc : Scope := match (defBody st_law).getD 3 (.Pass ⟨0, 0, 0, 0⟩) with
  | .For _ _ (.Assign _ (.ListComp _ _ sc _) _ :: _) _ _ => sc
  | _ => defScope st_law
theorem pe_metK {X : Cx} {K : PySem.W.Frag} {TL : List (Addr × Str)} {C : Nat → Addr} {c Pt : Addr} {k : Nat} {params : Arguments} {body : Expr} {scope : Scope} {t : XK → TE} {p lpos pos : Pos} (hK : X.K = K) (D : Def K X.mg "_law_d_met" st__law_d_met ["ask"]) (ER : Errs K X.mg C) (hg : Gl X "_law_d_met")
    (TB : TabB X.base X.mg c Pt) (hcode : X.env.code = .ref c) (hmT : (Pt, X.env.qual ++ "<lambda>") ∈ TL) (hu : ∀ p ∈ TL, p.1 = Pt → p.2 = X.env.qual ++ "<lambda>") (hr : Room (k + 2) X.A) (L : LamS X.env.scope scope) (hdef : defaultsOf params X.env = ([], []))
    (hbind : ∀ (q : Str) (cl : List (Str × Addr)) (pm cv ctv : Value), bindArgs (PySem.W.kla_fn "<lambda>" q params body scope cl pm cv ctv) ⟨[], []⟩ = pure [])
    (hbody : ∀ (A : Around) (outer : List Env) (s : Shared) (H : Hp) (E : XK) (f c' : Addr), Room k (A.deeper (lamEnv X scope s.heap.objs.size f c')) → PE (lamCx X A outer s H E scope f c') body (t E)) :
    PE X (.Call (.Name "_law_d_met" p) [.Lambda params body scope lpos] [] pos) (tLam TL (TTmet K (errsOf C) "told") t) := by
  subst hK
  exact pe_met D ER hg TB hcode hmT hu hr L hdef hbind hbody
/-- x() of a def without parameters -/
theorem pe_own0 {X : Cx} {k : Nat} {x : Str} {sp : Sp} {p pos : Pos} (C : Callee X.prog X.w X.K X.mg X.base k x [] sp) (hr : Room k X.A) (hg : Gl X x) (hd : (x == ("__debug__" : Str)) = false := by decide) :
    PE X (.Call (.Name x p) [] [] pos) (fun σ H Q => sp [] H Q E0) := by
  obtain ⟨f, fd, F, b, kp, m⟩ := C.ex
  exact pe_call0 F hr hg m kp b .nil pass0 hd
/-- a call of a local name that holds one of several defs, which may raise -/
def tAsk (i : Nat) (R : Addr → Sp → Prop) (E : XK) (t : TA) : TE := fun σ H Q => ∃ f sp, σ[i]? = some (some (.ref f)) ∧ R f sp ∧ t σ H fun vs H1 => sp vs H1 Q E
theorem pe_ask {X : Cx} {W : WX} {E : XK} {k i : Nat} {R : Addr → Sp → Prop} {x : Str} {e : Expr} {es : List Expr} {t : TA} {p pos : Pos} (A : ∀ f sp, R f sp → ∃ (fd : FuncData) (ps : List Str), FnOk X.prog X.w X.K X.mg X.base (L2.CX X.prog X.w) k f fd ps sp ∧ PySem.W.keepIn X.K (.ref f) = true ∧ L2.Binds X.K fd ps []) (hr : Room k X.A) (hN : X.N[i]? = some x) (hv : Vis X.env.scope x) (tk : Takes X W) (hW : ∀ cls d σ H, E cls d H → W cls d σ H) (ha : PA X (e :: es) t)
    (hdb : (x == ("__debug__" : Str)) = false := by decide) (hcd : (x == ("__classdict__" : Str)) = false := by decide)
    (he : starEach (e :: es) X.env = (false, eval e X.env) :: starEach es X.env := by rfl) (hpl : (backTo pos (starEach es X.env)).any (·.1) = false := by rfl) : PE X (.Call (.Name x p) (e :: es) [] pos) (tAsk i R E t) := by
  refine ⟨fun pins s σ H Q I h => ?_⟩
  obtain ⟨f, sp, hs, hS, ht⟩ := h
  obtain ⟨fd, ps, F, hk, hb⟩ := A f sp hS
  refine (pe_callL (i := i) (f := f) (sp := sp) (dvs := []) (E := E) F hr hN hv hk hb .nil (passes_call tk hW) ha hdb hcd he hpl).run pins s σ H Q I ⟨hs, ?_⟩
  have e0 : (fun (vs : List V) (H1 : Hp) => sp (vs ++ []) H1 Q E) = fun vs H1 => sp vs H1 Q E := by
    funext vs H1
    rw [List.append_nil]
  show t σ H (fun vs H1 => sp (vs ++ []) H1 Q E)
  rw [e0]
  exact ht
def AskR (K : PySem.W.Frag) (mg : Str → Option Value) (CW : Addr) (f : Addr) (sp : Sp) : Prop := (mg "places" = some (.ref f) ∧ sp = spPlaces K CW 12) ∨ (mg "depth" = some (.ref f) ∧ sp = spDepth K CW 12) ∨ (mg "variables_of" = some (.ref f) ∧ sp = spVariables K CW 12)
theorem ask_of {j : Nat} {CW : Addr} (c_places : CalleeX P w K mg base j "places" ["word"] (spPlaces K CW 12)) (c_depth : CalleeX P w K mg base j "depth" ["word"] (spDepth K CW 12)) (c_variables_of : CalleeX P w K mg base j "variables_of" ["word"] (spVariables K CW 12)) :
    ∀ f sp, AskR K mg CW f sp → ∃ (fd : FuncData) (ps : List Str), FnOk P w K mg base (L2.CX P w) j f fd ps sp ∧ PySem.W.keepIn K (.ref f) = true ∧ L2.Binds K fd ps [] := fun f sp h => by
  rcases h with ⟨hm, rfl⟩ | ⟨hm, rfl⟩ | ⟨hm, rfl⟩
  · obtain ⟨f', fd, F, b, kp, m⟩ := c_places.ex
    rw [m] at hm
    cases hm
    exact ⟨fd, _, F, kp, b⟩
  · obtain ⟨f', fd, F, b, kp, m⟩ := c_depth.ex
    rw [m] at hm
    cases hm
    exact ⟨fd, _, F, kp, b⟩
  · obtain ⟨f', fd, F, b, kp, m⟩ := c_variables_of.ex
    rw [m] at hm
    cases hm
    exact ⟨fd, _, F, kp, b⟩
def spLaw (K : PySem.W.Frag) (TL : List (Addr × Str)) : Sp := fun vs H Q _ => ∃ (l : Addr) (ns : List Int), vs = [.ref l] ∧ SqL K H l (ns.map V.int) ∧ Tabs TL H ∧ ∀ H', Q (.bl true) H'
def heldV (i : Nat) : List V := .str "X" :: List.replicate i (.str "late")
def heldD (i : Nat) : List PyData := .str "X" :: List.replicate i (.str "late")
theorem held_de (K : PySem.W.Frag) (H : Hp) (i : Nat) : DEs K H (heldV i) (heldD i) := by
  refine .cons (.str _) ?_
  induction i with
  | zero => exact .nil
  | succ i ih => exact .cons (.str _) ih
/-- no word -/
structure Bw (d : PyData) : Prop where
  no : chkW d = none
  z : okz d = true
  dp : d.depth < 12
  ok : okS d = true
  hd : hD d ≤ 3
def bwB (d : PyData) : Bool := (chkW d).isNone && okz d && decide (d.depth < 12) && okS d && decide (hD d ≤ 3)
theorem bw_of {d : PyData} (h : bwB d = true) : Bw d := by
  unfold bwB at h
  simp only [Bool.and_eq_true, decide_eq_true_eq, Option.isNone_iff_eq_none] at h
  exact ⟨h.1.1.1.1, h.1.1.1.2, h.1.1.2, h.1.2, h.2⟩
theorem bw_odd : ∀ d ∈ oddD, Bw d := fun d hd => bw_of ((by decide +kernel : oddD.all bwB = true) |> List.all_eq_true.mp |> fun h => h d hd)
theorem late_all (i : Nat) : okzs (List.replicate i (.str "late")) = true ∧ PyData.depthAll (List.replicate i (.str "late")) = 0 ∧ okSs (List.replicate i (.str "late")) = true ∧ hDs (List.replicate i (.str "late")) = 0 := by
  have h1 : okz (.str "late") = true := by decide +kernel
  induction i with
  | zero => exact ⟨rfl, rfl, rfl, rfl⟩
  | succ i ih =>
    obtain ⟨a, b, c, d⟩ := ih
    rw [List.replicate_succ]
    refine ⟨?_, ?_, ?_, ?_⟩
    · rw [okzs, h1, a]; rfl
    · rw [PyData.depthAll, b]; rfl
    · rw [okSs, c]; rfl
    · rw [hDs, d]; rfl
theorem bw_held (i : Nat) (hi : i ≤ 100) : Bw (.list (heldD i)) := by
  obtain ⟨a, b, c, d⟩ := late_all i
  have hX : nameOk "X" = false := by decide +kernel
  have hz : okz (.str "X") = true := by decide +kernel
  have hw : asW (.list (heldD i)) = none := by
    unfold heldD
    rw [asW, if_neg (show ¬ isNm (.str "X") = true from fun q => by rw [show isNm (.str "X") = nameOk "X" from rfl, hX] at q; cases q)]
  have he : eqOf (.list (heldD i)) = false := by
    have hs : decide (("X" : Str) = sEq) = false := by decide +kernel
    match i with
    | 0 => rfl
    | 1 => rfl
    | 2 => exact hs
    | n + 3 => rfl
  refine ⟨?_, ?_, ?_, ?_, ?_⟩
  · unfold chkW
    rw [hw]
    show asA _ = none
    unfold asA
    rw [he, if_neg Bool.false_ne_true, hw]
  · unfold heldD
    rw [okz, okzs, hz, a, List.length_cons, List.length_replicate, decide_eq_true (show i + 1 ≤ 1000 by omega)]; rfl
  · unfold heldD
    rw [PyData.depth, PyData.depthAll, b]; decide
  · unfold heldD
    rw [okS, okSs, c, List.length_cons, List.length_replicate, decide_eq_true (show i + 1 ≤ 100000 by omega)]; rfl
  · unfold heldD
    rw [hD, hDs, d]; decide
/-- a list of what was told so far, each with the very thing -/
structure Told (TL : List (Addr × Str)) (y : V) (m : Nat) (fl : Addr) (ys : List V) (H H' : Hp) : Prop where
  e : ExtN H H'
  tb : Tabs TL H'
  l : H' fl = some (.lst ys)
  n : ys.length = m
  w : ∀ r ∈ ys, ∃ p, r = V.ref p ∧ H' p = some (.tup [.str "word", y])
  fr : ∀ o, H fl = some o → ∃ ps, o = HO.tbl ps
theorem Told.more {TL : List (Addr × Str)} {y : V} {m : Nat} {fl p : Addr} {ys : List V} {H H1 H2 H3 : Hp} (t : Told TL y m fl ys H H1) (n1 : ExtN H1 H2) (t2 : Tabs TL H2) (e3 : Same H2 H3) (hp : H3 p = some (.tup [.str "word", y])) :
    H3 fl = some (.lst ys) ∧ Told TL y (m + 1) fl (ys ++ [.ref p]) H (upd H3 fl (.lst (ys ++ [.ref p]))) := by
  have n13 := n1.trans (ExtN.of e3)
  have hl := n13 _ _ t.l fun ps z => nomatch z
  refine ⟨hl, ext_upd (t.e.trans n13) t.fr, tabs_upd (t2.ext e3) hl, upd_same, by rw [List.length_append, t.n]; rfl, fun r hr => ?_, t.fr⟩
  have key : ∀ {p : Addr}, H3 p = some (.tup [.str "word", y]) → upd H3 fl (.lst (ys ++ [.ref p])) p = some (.tup [.str "word", y]) ∧ p ≠ fl := fun {p} h => by
    have ne : p ≠ fl := fun z => by rw [z, hl] at h; cases h
    exact ⟨by rw [upd_ne ne]; exact h, ne⟩
  rcases List.mem_append.mp hr with hr | hr
  · obtain ⟨p', rfl, hp'⟩ := t.w r hr
    have h3 := n13 _ _ hp' fun ps z => nomatch z
    exact ⟨p', rfl, by rw [upd_ne (key h3).2]; exact h3⟩
  · rw [List.mem_singleton] at hr
    subst hr
    exact ⟨p, rfl, (key hp).1⟩
theorem chk_bad {K : PySem.W.Frag} {CW : Addr} {v : V} {H : Hp} {E : XK} {R : T → Prop} {d : PyData} (h : DE K H v d) (b : Bw d) (k : ∀ H1, Same H H1 → Left CW "thing" v H1 E) : Chk K CW 12 v H E R :=
  ⟨no0, d, tr0 H, by rw [hide0]; exact h, b.z, b.dp, fun t ht => (by rw [b.no] at ht; cases ht), fun _ => k⟩
theorem chkN_bad {K : PySem.W.Frag} {CW : Addr} {v : V} {H : Hp} {E : XK} {R : T → Prop} {d : PyData} (h : DE K H v d) (b : Bw d) (k : ∀ H1, Same H H1 → Left CW "thing" v H1 E) : ChkN K CW 12 no0 v H E R :=
  ⟨d, tr0 H, by rw [hide0]; exact h, b.z, b.dp, fun t ht => (by rw [b.no] at ht; cases ht), fun _ => k⟩
theorem des_rep {K : PySem.W.Frag} {H : Hp} {d : PyData} : ∀ (ys : List V), (∀ r ∈ ys, DE K H r d) → DEs K H ys (List.replicate ys.length d)
  | [], _ => .nil
  | r :: ys, h => .cons (h r (List.mem_cons_self ..)) (des_rep ys fun r' hr => h r' (List.mem_cons_of_mem _ hr))
theorem ok_law (G : Glob K mg) {TL : List (Addr × Str)} {cc Pt : Addr} {C : Nat → Addr} {f : Addr} {fd : FuncData} (F : ∃ (oc : Value) (od : Option Addr) (kV doc pm : Value) (an : Option Addr) (ct : Value) (osl : Array (Option Value)),
    fd = PySem.W.fnOf "law" "law" (defArgs st_law) (defBody st_law) (defScope st_law) .none kV doc pm an (.ref cc) ct ∧ K.lookup f = some ⟨oc, od, .func fd, osl⟩ ∧ PySem.W.codeIn K (.ref cc) "law" = true) (TBc : TabB base mg cc Pt) (hmT : (Pt, lamQ "law") ∈ TL) (huT : ∀ p ∈ TL, p.1 = Pt → p.2 = lamQ "law")
    (D_met : Def K mg "_law_d_met" st__law_d_met ["ask"]) (ER : Errs K mg C) {j jw : Nat}
    (c__law_start : Callee P w K mg base 1 "_law_start" ["script"] (spStart K)) (c__law_draw : Callee P w K mg base 1 "_law_draw" ["stream", "many"] spDraw) (c__law_d_word : Callee P w K mg base 14 "_law_d_word" ["stream", "level", "variables"] (spDWord K 12)) (c__law_d_atom : Callee P w K mg base 15 "_law_d_atom" ["stream", "level", "variables"] (spDAtom K 12))
    (c__law_word_right : CalleeG P w K mg base j "_law_word_right" ["stream", "word", "part"] (spRight K TL)) (c__law_d_odd_words : Callee P w K mg base 1 "_law_d_odd_words" [] (spOdd K)) (c_places : CalleeX P w K mg base jw "places" ["word"] (spPlaces K (C 0) 12)) (c_depth : CalleeX P w K mg base jw "depth" ["word"] (spDepth K (C 0) 12)) (c_variables_of : CalleeX P w K mg base jw "variables_of" ["word"] (spVariables K (C 0) 12))
    (c_word_at : CalleeX P w K mg base jw "word_at" ["word", "place"] (spWordAt K (C 0) (C 1) 12)) (c_word_put : CalleeX P w K mg base jw "word_put" ["word", "place", "part"] (spWordPut K (C 0) (C 1) 12)) (c__law_same : Callee P w K mg base 13 "_law_same" ["found", "due"] (spSameT K 12))
    (hj : jw + 2 ≤ j) (hj2 : 15 ≤ j) : FnG P w K mg base CX0 (j + 1) f fd ["script"] (spLaw K TL) := by
  have z_range := G.range
  have hask := ask_of c_places c_depth c_variables_of
  obtain ⟨f_places, T_places⟩ : ∃ f, mg "places" = some (.ref f) ∧ RelV (.ref f) (.ref f) := by
    obtain ⟨f', fd, F, b, kp, m⟩ := c_places.ex
    exact ⟨f', m, rfl⟩
  obtain ⟨f_depth, T_depth⟩ : ∃ f, mg "depth" = some (.ref f) ∧ RelV (.ref f) (.ref f) := by
    obtain ⟨f', fd, F, b, kp, m⟩ := c_depth.ex
    exact ⟨f', m, rfl⟩
  obtain ⟨f_variables_of, T_variables_of⟩ : ∃ f, mg "variables_of" = some (.ref f) ∧ RelV (.ref f) (.ref f) := by
    obtain ⟨f', fd, F, b, kp, m⟩ := c_variables_of.ex
    exact ⟨f', m, rfl⟩
  refine okGL F sc_law (fun vs H Q E h => ?_) (fun A outer s_ H vs Q E hr h => ?_)
  · obtain ⟨l, ns, rfl, _⟩ := h
    rfl
  have hr__law_start := hr.rm.mono (show 1 ≤ j by omega)
  have hr__law_draw := hr.rm.mono (show 1 ≤ j by omega)
  have hr__law_d_word := hr.rm.mono (show 14 ≤ j by omega)
  have hr__law_d_atom := hr.rm.mono (show 15 ≤ j by omega)
  have hr__law_word_right := hr
  have hr__law_d_odd_words := hr.rm.mono (show 1 ≤ j by omega)
  have hr__law_same := hr.rm.mono (show 13 ≤ j by omega)
  have hr_variables_of := hr.rm.mono (show jw ≤ j by omega)
  have hr_met : Room (jw + 2) _ := hr.rm.mono hj
  have le_ask := Nat.le_refl jw
  have le_word_at := Nat.le_refl jw
  have le_word_put := Nat.le_refl jw
  refine ⟨_, (pss_cons (ps_set (i := 1) sc_law.nd rfl (Or.inl rfl) (pe_own c__law_start hr__law_start rfl (pa_cons (pv 0) pa_nil))) (pss_cons (ps_for PassesOwn.never rfl (pi_range1 rfl z_range (pa_cons pe_int pa_nil)) (pg_name (i := 2) sc_law.nd rfl (Or.inl rfl)) (pss_cons (ps_set (i := 3) sc_law.nd rfl (Or.inl rfl) (pe_slice sl_list (pe_lst (pa_cons pe_str (pa_cons pe_str (pa_cons pe_str (pa_cons pe_str pa_nil))))) po_none (po_some (pe_own c__law_draw hr__law_draw rfl (pa_cons (pv 1) (pa_cons pe_int pa_nil)))))) (pss_cons (ps_set (i := 4) sc_law.nd rfl (Or.inl rfl) (pe_own c__law_d_word hr__law_d_word rfl (pa_cons (pv 1) (pa_cons pe_int (pa_cons (pv 3) pa_nil))))) (pss_cons (ps_if (pt_cmpR op_eq (pe_op op_mod (pv 2) pe_int) pe_int (nomark _)) (pss_one (ps_set (i := 4) sc_law.nd rfl (Or.inl rfl) (pe_own c__law_d_atom hr__law_d_atom rfl (pa_cons (pv 1) (pa_cons pe_int (pa_cons (pv 3) pa_nil)))))) pss_nil) (pss_cons (ps_if (pt_cmpR op_eq (pv 2) pe_int (nomark _)) (pss_one (ps_set (i := 4) sc_law.nd rfl (Or.inl rfl) (pe_tup (pa_cons pe_str (pa_cons (pv 4) (pa_cons (pe_own c__law_d_word hr__law_d_word rfl (pa_cons (pv 1) (pa_cons pe_int (pa_cons (pv 3) pa_nil)))) pa_nil)))))) pss_nil) (pss_one (ps_if (pt_not (pt_val (pe_ownG c__law_word_right hr__law_word_right rfl (pa_cons (pv 1) (pa_cons (pv 4) (pa_cons (pe_own c__law_d_word hr__law_d_word rfl (pa_cons (pv 1) (pa_cons pe_int (pa_cons (pv 3) pa_nil)))) pa_nil)))))) (pss_one (ps_ret pe_bl)) pss_nil))))))) (pss_cons (ps_set (i := 5) sc_law.nd rfl (Or.inl rfl) (pe_lst (pa_cons pe_str pa_nil))) (pss_cons (ps_for PassesOwn.never rfl (pi_list (pe_op op_cat (pe_own0 c__law_d_odd_words hr__law_d_odd_words rfl) (pe_lst (pa_cons (pv 5) pa_nil)))) (pg_name (i := 6) sc_law.nd rfl (Or.inr rfl)) (pss_cons (ps_setLc (i := 7) (own := [("ask", 8)]) (g := (gName 8)) (tt := tYes) rfl sc_law.nd rfl rfl (sw_true rfl rfl rfl (by decide +kernel)) (pi_tup (pe_tup (pa_cons (pe_glob rfl T_places.1 T_places.2) (pa_cons (pe_glob rfl T_depth.1 T_depth.2) (pa_cons (pe_glob rfl T_variables_of.1 T_variables_of.2) pa_nil))))) (blkOk_by (N := ["script", "stream", "turn", "variables", "word", "held", "odd", "found", "ask"]) (sc := defScope st_law) (by decide +kernel)) (fun _ _ _ _ _ => (pg_name (i := 8) sc_law.nd rfl (Or.inr rfl))) (fun _ _ _ _ _ => pts_nil) (fun _ _ _ _ _ => (pe_metK (K := K) rfl D_met ER rfl TBc rfl hmT huT hr_met (lamS_by (sc := relS lawCompSc (defScope st_law)) (by decide +kernel)) rfl (fun _ _ _ _ _ => rfl) (fun A outer s H E f c' hrl => (pe_ask (E := E) (i := 8) (R := AskR K mg (C 0)) hask (hrl.mono le_ask) rfl (.inr (.inr rfl)) (takes_of rfl rfl rfl rfl) (fun _ _ _ _ h => h) (pa_cons (pv 6) pa_nil)))))) (pss_cons (ps_expr (pe_bm PySem.F.plainAttrs_list PySem.F.slot_list_append PySem.F.type_list_append mt_append (pv 7) (pa_cons (pe_met D_met ER rfl TBc rfl hmT huT hr_met (lamS_by (sc := defScope st_law) (by decide +kernel)) rfl (fun _ _ _ _ _ => rfl) (fun A outer s H E f c' hrl => (pe_ownX (E := E) c_word_at (hrl.mono le_word_at) rfl (takes_of rfl rfl rfl rfl) (fun _ _ _ _ h => h) (pa_cons (pv 6) (pa_cons pe_non pa_nil))))) pa_nil))) (pss_cons (ps_expr (pe_bm PySem.F.plainAttrs_list PySem.F.slot_list_append PySem.F.type_list_append mt_append (pv 7) (pa_cons (pe_met D_met ER rfl TBc rfl hmT huT hr_met (lamS_by (sc := defScope st_law) (by decide +kernel)) rfl (fun _ _ _ _ _ => rfl) (fun A outer s H E f c' hrl => (pe_ownX (E := E) c_word_put (hrl.mono le_word_put) rfl (takes_of rfl rfl rfl rfl) (fun _ _ _ _ h => h) (pa_cons (pv 6) (pa_cons pe_non (pa_cons pe_non pa_nil)))))) pa_nil))) (pss_cons (ps_expr (pe_bm PySem.F.plainAttrs_list PySem.F.slot_list_append PySem.F.type_list_append mt_append (pv 7) (pa_cons (pe_met D_met ER rfl TBc rfl hmT huT hr_met (lamS_by (sc := defScope st_law) (by decide +kernel)) rfl (fun _ _ _ _ _ => rfl) (fun A outer s H E f c' hrl => (pe_ownX (E := E) c_word_put (hrl.mono le_word_put) rfl (takes_of rfl rfl rfl rfl) (fun _ _ _ _ h => h) (pa_cons pe_str (pa_cons (pe_lst pa_nil) (pa_cons (pv 6) pa_nil)))))) pa_nil))) (pss_cons (ps_expr (pe_bm PySem.F.plainAttrs_list PySem.F.slot_list_append PySem.F.type_list_append mt_append (pv 5) (pa_cons pe_str pa_nil))) (pss_one (ps_if (pt_not (pt_val (pe_own c__law_same hr__law_same rfl (pa_cons (pv 7) (pa_cons (pe_op op_rep (pe_lst (pa_cons (pe_tup (pa_cons pe_str (pa_cons (pv 6) pa_nil))) pa_nil)) pe_int) pa_nil))))) (pss_one (ps_ret pe_bl)) pss_nil)))))))) (pss_cons (ps_set (i := 5) sc_law.nd rfl (Or.inl rfl) (pe_lst (pa_cons pe_str (pa_cons pe_str pa_nil)))) (pss_cons (ps_set (i := 7) sc_law.nd rfl (Or.inl rfl) (pe_lst (pa_cons (pe_ownX (E := fun _ _ _ => False) c_variables_of hr_variables_of rfl takes_none5 (fun _ _ _ _ z => z.elim) (pa_cons (pv 5) pa_nil)) pa_nil))) (pss_cons (ps_asg pe_str (pg_sub (pv 5) pe_int set_list)) (pss_cons (ps_expr (pe_bm PySem.F.plainAttrs_list PySem.F.slot_list_append PySem.F.type_list_append mt_append (pv 7) (pa_cons (pe_ownX (E := fun _ _ _ => False) c_variables_of hr_variables_of rfl takes_none5 (fun _ _ _ _ z => z.elim) (pa_cons (pv 5) pa_nil)) pa_nil))) (pss_cons (ps_asg pe_str (pg_sub (pv 5) pe_int set_list)) (pss_one (ps_ret (pe_own c__law_same hr__law_same rfl (pa_cons (pe_op op_cat (pv 7) (pe_lst (pa_cons (pe_ownX (E := fun _ _ _ => False) c_variables_of hr_variables_of rfl takes_none5 (fun _ _ _ _ z => z.elim) (pa_cons (pv 5) pa_nil)) pa_nil))) (pa_cons (pe_lst (pa_cons (pe_lst (pa_cons pe_str pa_nil)) (pa_cons (pe_lst (pa_cons pe_str pa_nil)) (pa_cons (pe_lst (pa_cons pe_str pa_nil)) pa_nil)))) pa_nil)))))))))))))), ?_⟩
  obtain ⟨l, ns, rfl, hl, hT, k⟩ := h
  refine q_seq (fun σ' H' => ∃ s c, σ' = [some (.ref l), some (.ref s), none, none, none, none, none, none, none] ∧ Tabs TL H' ∧ Stm s c H' 0) (fun Z z => ?_) (fun σ1 H1 hp1 => ?_)
  · walk_at "rd"
    exact ⟨_, rfl, l, ns, rfl, hl, fun s c H' e _ _ st => z _ _ ⟨s, c, rfl, hT.ext e, st⟩⟩
  obtain ⟨s, c, rfl, tb1, st1⟩ := hp1
  have hM : ∀ a, two s c a → NT s c TL a := fun a q => .inl q
  refine q_seq (fun σ' H' => ∃ u2 u3 u4, σ' = [some (.ref l), some (.ref s), u2, u3, u4, none, none, none, none] ∧ Tabs TL H') (fun Z z => ?_) (fun σ2 H2 hp2 => ?_)
  · refine rd_for ?_
    walk_at "rd"
    refine ⟨9, rfl, by decide, by decide, ?_⟩
    refine forq (St := fun _ => True) (n := 9) (sp_range (lo := 0)) (fun i σ' H' => ∃ u2 u3 u4, σ' = [some (.ref l), some (.ref s), u2, u3, u4, none, none, none, none] ∧ Tabs TL H' ∧ Stm s c H' (i * 7000)) ⟨_, _, _, rfl, tb1, by rw [Nat.zero_mul]; exact st1⟩ (fun _ _ _ _ => trivial) (fun i y σ' H' H'' hi q e r => ?_) (fun σ' H' q => ?_)
    · obtain ⟨w2, w3, w4, rfl, tb, st⟩ := q
      obtain ⟨rfl, rfl⟩ := r
      dsimp only [gName, List.set_cons_succ, List.set_cons_zero]
      refine q_seq (fun σ' H' => ∃ (vl : Addr) (xs : List Str), σ' = [some (.ref l), some (.ref s), some (.int (0 + (i : Nat))), some (.ref vl), w4, none, none, none, none] ∧ Tabs TL H' ∧ Stm s c H' (i * 7000 + 1) ∧ SqL K (hide (NT s c TL) H') vl (xs.map V.str) ∧ (∀ x ∈ xs, x ∈ vrL) ∧ xs.length ≤ 4) (fun Z1 z1 => ?_) (fun σ3 H3 hp3 => ?_)
      · have tb := tb.ext e
        have st := st.same e
        walk_at "rd"
        refine ⟨by decide, fun q hq => ?_⟩
        have eq := same_new hq (.lst [.str "X", .str "Y", .str "Z12", .str "A"])
        refine ⟨_, rfl, s, c, 5, _, rfl, st.same eq, by omega, by decide, by decide, fun r Ha r0 r1 kp sta => ?_⟩
        have tba := tabs_kept (tb.ext eq) (st.same eq) kp
        have trq := nt_tr tb st
        have hqa : Ha q = some (.lst [.str "X", .str "Y", .str "Z12", .str "A"]) := kp.at (fun z => trq.off hq (hM _ z)) upd_same
        refine ⟨r, rfl, q, _, rfl, .inl (.inl hqa), fun p hp => ?_⟩
        have ep := same_new hp (.lst (cutV [.str "X", .str "Y", .str "Z12", .str "A"] none (some r)))
        refine z1 _ _ ⟨p, vrL.take r.toNat, rfl, tba.ext ep, sta.same ep, ?_, fun x hx => List.mem_of_mem_take hx, by rw [List.length_take]; exact Nat.le_trans (Nat.min_le_right _ _) (by decide)⟩
        have er : ((r.toNat : Nat) : Int) = r := by omega
        have := cut_k [V.str "X", V.str "Y", V.str "Z12", V.str "A"] r.toNat
        rw [er] at this
        rw [List.map_take]
        refine .inl (.inl ((hide_upd ((nt_tr tba sta).off hp)).trans ?_))
        rw [this]
        rfl
      obtain ⟨vl, xs, rfl, tb3, st3, hvl, hxs, hxl⟩ := hp3
      refine q_seq (fun σ' H' => ∃ t v, σ' = [some (.ref l), some (.ref s), some (.int (0 + (i : Nat))), some (.ref vl), some v, none, none, none, none] ∧ Tabs TL H' ∧ Stm s c H' (i * 7000 + 300) ∧ SqL K (hide (NT s c TL) H') vl (xs.map V.str) ∧ Dp K (hide (NT s c TL) H') v (T.dat t) ∧ wOk t = true ∧ t.sz ≤ 121 ∧ t.ht ≤ 5) (fun Z1 z1 => ?_) (fun σ4 H4 hp4 => ?_)
      · walk_at "rd"
        have hd4 : dr 4 = 242 := by decide
        have hs4 : szB 4 = 121 := by decide
        refine ⟨_, rfl, _, rfl, NT s c TL, s, c, vl, xs, _, 4, rfl, by decide, hM, nt_tr tb3 st3, st3, by omega, hvl, hxs, hxl, fun t v Ha w1 w2 w3 kp st d => z1 _ _ ⟨t, v, rfl, tabs_kept tb3 st3 kp, st.mono (by omega), Same.seq (kp.sub hM) hvl, d, w1, by omega, w3⟩⟩
      obtain ⟨t, v, rfl, tb4, st4, hvl4, dv4, wt, tz, th⟩ := hp4
      refine q_seq (fun σ' H' => ∃ t v, σ' = [some (.ref l), some (.ref s), some (.int (0 + (i : Nat))), some (.ref vl), some v, none, none, none, none] ∧ Tabs TL H' ∧ Stm s c H' (i * 7000 + 500) ∧ SqL K (hide (NT s c TL) H') vl (xs.map V.str) ∧ Dp K (hide (NT s c TL) H') v (T.dat t) ∧ wOk t = true ∧ t.sz ≤ 121 ∧ t.ht ≤ 5 ∧ (i = 8 → t.sz ≤ 81)) (fun Z1 z1 => ?_) (fun σ5 H5 hp5 => ?_)
      · refine if_t (decide (i % 3 = 2)) (fun Q1 q1 => ?_) (fun hb Ha ea => ?_) (fun hb Ha ea => ?_)
        · walk_at "rd"
          refine ⟨_, rfl, _, _, rfl, rfl, pos_lit (by decide), rfl, _, rfl, ?_⟩
          have e0 : decide (V.int ((0 + (i : Nat) : Int) % 3) = V.int 2) = decide (i % 3 = 2) := by
            rw [dec_int, Bool.eq_iff_iff, beq_iff_eq, decide_eq_true_iff]
            omega
          have := q1 _ (Same.refl H4)
          rw [← e0] at this
          exact this
        · walk_at "rd"
          have hd4 : dr 3 = 80 := by decide
          have hs4 : szB 3 = 40 := by decide
          have tba := tb4.ext ea
          have sta := st4.same ea
          refine ⟨_, rfl, _, rfl, NT s c TL, s, c, vl, xs, _, 3, rfl, by decide, hM, nt_tr tba sta, sta, by omega, Same.seq (hide_mono ea) hvl4, hxs, hxl, fun t v Hb w1 _ w2 w3 kp st d => z1 _ _ ⟨t, v, rfl, tabs_kept tba sta kp, st.mono (by omega), Same.seq ((hide_mono ea).trans (kp.sub hM)) hvl4, d, w1, by omega, by omega, fun _ => by omega⟩⟩
        · have hb := of_decide_eq_false hb
          exact z1 _ _ ⟨t, v, rfl, tb4.ext ea, (st4.same ea).mono (by omega), Same.seq (hide_mono ea) hvl4, Dp.same (hide_mono ea) dv4, wt, tz, th, fun h => by omega⟩
      obtain ⟨t, v, rfl, tb5, st5, hvl5, dv5, wt, tz, th, t8⟩ := hp5
      refine q_seq (fun σ' H' => ∃ t v, σ' = [some (.ref l), some (.ref s), some (.int (0 + (i : Nat))), some (.ref vl), some v, none, none, none, none] ∧ Tabs TL H' ∧ Stm s c H' (i * 7000 + 600) ∧ SqL K (hide (NT s c TL) H') vl (xs.map V.str) ∧ Dp K (hide (NT s c TL) H') v (T.dat t) ∧ aOk t = true ∧ t.sz ≤ 121 ∧ t.ht ≤ 6) (fun Z1 z1 => ?_) (fun σ6 H6 hp6 => ?_)
      · refine if_t (decide (i = 8)) (fun Q1 q1 => ?_) (fun hb Ha ea => ?_) (fun hb Ha ea => ?_)
        · walk_at "rd"
          refine ⟨_, rfl, rfl, _, rfl, ?_⟩
          have e0 : decide (V.int (0 + (i : Nat) : Int) = V.int 8) = decide (i = 8) := by
            rw [dec_int, Bool.eq_iff_iff, beq_iff_eq, decide_eq_true_iff]
            omega
          have := q1 _ (Same.refl H5)
          rw [← e0] at this
          exact this
        · have hb := of_decide_eq_true hb
          have t8 := t8 hb
          walk_at "rd"
          have hd4 : dr 2 = 26 := by decide
          have hs4 : szB 2 = 13 := by decide
          have tba := tb5.ext ea
          have sta := st5.same ea
          have dva := Dp.same (hide_mono (N := NT s c TL) ea) dv5
          refine ⟨_, rfl, _, rfl, _, rfl, NT s c TL, s, c, vl, xs, _, 2, rfl, by decide, hM, nt_tr tba sta, sta, by omega, Same.seq (hide_mono ea) hvl5, hxs, hxl, fun u vu Hb w1 w2 w3 kp st d => ⟨by decide, fun p hp => ?_⟩⟩
          have tbb := tabs_kept tba sta kp
          have ep := same_new hp (.tup [.str "=", v, vu])
          have ekp : Same (hide (NT s c TL) Ha) (hide (NT s c TL) Hb) := kp.sub hM
          refine z1 _ _ ⟨.n sEq [t, u], _, rfl, tbb.ext ep, (st.same ep).mono (by omega), Same.seq (((hide_mono ea).trans ekp).trans (hide_mono ep)) hvl5, ?_, ?_, ?_, ?_⟩
          · rw [T.dat]
            exact .tup (.inl (.inl (hide_upd ((nt_tr tbb st).off hp)))) (.cons (.str _) (.cons (Dp.same (ekp.trans (hide_mono ep)) dva) (.cons (Dp.same (hide_mono ep) d) .nil)))
          · rw [aOk, wOks, wOks, wOks, wt, w1]
            simp
          · rw [T.sz, T.szs, T.szs, T.szs]; omega
          · rw [T.ht, T.hts, T.hts, T.hts]; omega
        · exact z1 _ _ ⟨t, v, rfl, tb5.ext ea, (st5.same ea).mono (by omega), Same.seq (hide_mono ea) hvl5, Dp.same (hide_mono ea) dv5, aOk_of wt, tz, by omega⟩
      obtain ⟨t, v, rfl, tb6, st6, hvl6, dv6, wt, tz, th⟩ := hp6
      walk_at "rd"
      have hd4 : dr 2 = 26 := by decide
      have hs4 : szB 2 = 13 := by decide
      refine ⟨_, rfl, _, rfl, _, rfl, _, rfl, NT s c TL, s, c, vl, xs, _, 2, rfl, by decide, hM, nt_tr tb6 st6, st6, by omega, hvl6, hxs, hxl, fun u vu Hb w1 w2 w3 kp st d => ?_⟩
      refine ⟨s, c, v, vu, t, u, _, rfl, tabs_kept tb6 st6 kp, st, by omega, Dp.same (kp.sub hM) dv6, d, wt, w1, tz, th, by omega, by omega, fun Hc tbc stc => ⟨_, rfl, iteF ?_⟩⟩
      exact ⟨_, _, _, rfl, tbc, stc.mono (by omega)⟩
    · obtain ⟨u2, u3, u4, rfl, tb, st⟩ := q
      exact z _ _ ⟨_, _, _, rfl, tb⟩
  obtain ⟨u2, u3, u4, rfl, tb2⟩ := hp2
  refine q_seq (fun σ' H' => ∃ hd, σ' = [some (.ref l), some (.ref s), u2, u3, u4, some (.ref hd), none, none, none] ∧ Tabs TL H' ∧ H' hd = some (.lst [.str "X"])) (fun Z z => ?_) (fun σ3 H3 hp3 => ?_)
  · walk_at "rd"
    exact ⟨by decide, fun hd hh => z _ _ ⟨hd, rfl, tb2.ext (same_new hh _), upd_same⟩⟩
  obtain ⟨hd, rfl, tb3, hhd⟩ := hp3
  refine q_seq (fun σ' H' => ∃ u6 u7, σ' = [some (.ref l), some (.ref s), u2, u3, u4, some (.ref hd), u6, u7, none]) (fun Z z => ?_) (fun σ4 H4 hp4 => ?_)
  · refine rd_for ?_
    walk_at "rd"
    refine ⟨rfl, fun Ha lo xs ea hlo hxs hde => ⟨_, rfl, by decide, fun l2 hl2 => ?_⟩⟩
    have e2 := same_new hl2 (.lst [.ref hd])
    have dl := dats_len hde
    refine ⟨lo, l2, _, _, rfl, rfl, e2 _ _ hxs, upd_same, by rw [dl, sizeLine_eq]; exact (by decide : oddD.length + 1 ≤ 16777216), fun q hq => ?_⟩
    have e3 := same_new hq (.lst (xs ++ [V.ref hd]))
    have e23 := e2.trans e3
    have eall := ea.trans e23
    have t1 : Tr (one hd) H3 := fun a q => by rw [show a = hd from q, hhd]; exact fun z => nomatch z
    have dz := DEs.same (hide_mono (N := one hd) e23) (hde _ t1)
    have tbz := tb3.ext eall
    have hhz := eall _ _ hhd
    have hqd : q ≠ hd := fun z => by subst z; rw [(ea.trans e2) _ _ hhd] at hq; cases hq
    have hqz : upd (upd Ha l2 (.lst [.ref hd])) q (.lst (xs ++ [V.ref hd])) q = some (.lst (xs ++ [V.ref hd])) := upd_same
    refine ⟨q, rfl, ⟨_, .inl (.inl hqz)⟩, ?_⟩
    revert dz tbz hhz hqz
    generalize upd (upd Ha l2 (.lst [.ref hd])) q (.lst (xs ++ [V.ref hd])) = Hz
    intro dz tbz hhz hqz
    have zl : (xs ++ [V.ref hd]).length = 23 := by rw [List.length_append, dl]; rfl
    refine forq (sp_list (K := K) (xs := xs ++ [V.ref hd])) (fun i σ' H' => ∃ u6 u7, σ' = [some (.ref l), some (.ref s), u2, u3, u4, some (.ref hd), u6, u7, none] ∧ ExtN (hide (one hd) Hz) (hide (one hd) H') ∧ Tabs TL H' ∧ H' hd = some (.lst (heldV i))) ⟨_, _, rfl, ExtN.refl _, tbz, hhz⟩ (fun i σ' H' q' => ?_) (fun i y σ' H' H'' hi q' e r => ?_) (fun σ' H' q' => ?_)
    · obtain ⟨_, _, _, en, _⟩ := q'
      have := en q _ ((hide_off (show ¬ one hd q from hqd)).trans hqz) fun ps z => nomatch z
      exact .inl (.inl (hide_same _ _ this))
    · obtain ⟨w6, w7, rfl, en, tb, hh⟩ := q'
      obtain ⟨r1, rfl⟩ := r
      have tb := tb.ext e
      have hh := e _ _ hh
      have en := en.trans (hide_ext (N := one hd) (ExtN.of e))
      have OD : ∀ H1 j, ExtN (hide (one hd) Hz) (hide (one hd) H1) → H1 hd = some (.lst (heldV j)) → j ≤ 100 → ∃ d, DE K H1 y d ∧ Bw d := fun H1 j e1 h1 hj => by
        by_cases hx : i < xs.length
        · rw [List.getElem?_append_left hx] at r1
          obtain ⟨d, hd', dv⟩ := dz.get r1
          exact ⟨d, DE.same hide_same (de_ext e1 dv), bw_odd d (List.mem_of_getElem? hd')⟩
        · rw [List.getElem?_append_right (by omega)] at r1
          have : y = .ref hd := by
            have := List.mem_of_getElem? r1
            rw [List.mem_singleton] at this
            exact this
          subst this
          exact ⟨_, .lst (.inl (.inl h1)) (held_de K H1 j), bw_held j hj⟩
      have hi2 : i ≤ 22 := by omega
      clear r1 dz
      dsimp only [gName, List.set_cons_succ, List.set_cons_zero]
      refine q_seq (fun σ' H' => ∃ fl ys, σ' = [some (.ref l), some (.ref s), u2, u3, u4, some (.ref hd), some y, some (.ref fl), none] ∧ Told TL y 3 fl ys H'' H') (fun Z1 z1 => ?_) (fun σ5 H5 hp5 => ?_)
      · walk_at "rd"
        refine rd_lc ?_
        walk_at "rd"
        refine ⟨by decide, fun tp htp => ⟨tp, rfl, ⟨_, .inl (.inl upd_same)⟩, ?_⟩⟩
        have et := same_new htp (.tup [.ref f_places, .ref f_depth, .ref f_variables_of])
        refine lcq (sp_tup (K := K) (xs := [V.ref f_places, V.ref f_depth, V.ref f_variables_of])) (show 3 ≤ 100000 by decide) (fun D m ys H' => ExtN (upd H'' tp (.tup [.ref f_places, .ref f_depth, .ref f_variables_of])) H' ∧ Tabs TL H' ∧ ys.length = m ∧ ∀ r ∈ ys, ∃ p, r = V.ref p ∧ H' p = some (.tup [.str "word", y])) (fun D hD => ?_) (fun D m ys H' q' => ?_) (fun D m x ys Hp Hq Q2 Q3 hi' hD q' hy hl' e' r' q2 q3 => ?_) (fun D H2 ys hD q' hy => ?_)
        · exact ⟨ExtN.of (same_new hD _), (tb.ext et).ext (same_new hD _), rfl, fun r hr => nomatch hr⟩
        · exact .inl (.inl (q'.1 _ _ upd_same fun ps z => nomatch z))
        · obtain ⟨x1, x2, x3, x4⟩ := q'
          obtain ⟨rx, rfl⟩ := r'
          have hR : ∃ f sp, x = .ref f ∧ AskR K mg (C 0) f sp := by
            match m, rx with
            | 0, rx => cases rx; exact ⟨_, _, rfl, .inl ⟨T_places.1, rfl⟩⟩
            | 1, rx => cases rx; exact ⟨_, _, rfl, .inr (.inl ⟨T_depth.1, rfl⟩)⟩
            | 2, rx => cases rx; exact ⟨_, _, rfl, .inr (.inr ⟨T_variables_of.1, rfl⟩)⟩
          obtain ⟨f0, sp0, rfl, hask0⟩ := hR
          walk_at "rd"
          refine ⟨rfl, iteT ?_⟩
          refine ⟨x2.ext e', fun Hc nc tc => ?_⟩
          have nb := ((ExtN.of et).trans (x1.trans (ExtN.of e'))).trans nc
          obtain ⟨d, dv, bd⟩ := OD Hc i (en.trans (hide_ext nb)) (nb _ _ hh fun ps z => nomatch z) (by omega)
          have fin : ∀ H1, Same Hc H1 → Left (C 0) "thing" y H1 (metE K Q2 (errsOf C)) := fun H1 e1 => met_word ER fun p He ee hp1 => by
            have n4 := nc.trans (ExtN.of (e1.trans ee))
            have hy4 := n4 _ _ (e' _ _ hy) fun ps z => nomatch z
            have hDn : ∀ o, (upd H'' tp (.tup [.ref f_places, .ref f_depth, .ref f_variables_of])) D = some o → ∃ ps, o = HO.tbl ps := fun o q => by rw [hD] at q; cases q
            have key : ∀ {p : Addr}, He p = some (.tup [.str "word", y]) → upd He D (.lst (ys ++ [V.ref p])) p = some (.tup [.str "word", y]) ∧ p ≠ D := fun {p} h => by
              have ne : p ≠ D := fun z => by rw [z, hy4] at h; cases h
              exact ⟨by rw [upd_ne ne]; exact h, ne⟩
            refine q2 _ He hy4 ⟨ext_upd (x1.trans ((ExtN.of e').trans n4)) hDn, tabs_upd (tc.ext (e1.trans ee)) hy4, by rw [List.length_append, x3]; rfl, fun r hr => ?_⟩
            rcases List.mem_append.mp hr with hr | hr
            · obtain ⟨p', rfl, hp'⟩ := x4 r hr
              have h3 := n4 _ _ (e' _ _ hp') fun ps z => nomatch z
              exact ⟨p', rfl, by rw [upd_ne (key h3).2]; exact h3⟩
            · rw [List.mem_singleton] at hr
              subst hr
              exact ⟨p, rfl, (key hp1).1⟩
          refine ⟨f0, sp0, rfl, hask0, _, rfl, ?_⟩
          rcases hask0 with ⟨_, rfl⟩ | ⟨_, rfl⟩ | ⟨_, rfl⟩
          · exact ⟨y, rfl, chk_bad dv bd fin⟩
          · exact ⟨y, rfl, chk_bad dv bd fin⟩
          · exact ⟨y, rfl, chk_bad dv bd fin⟩
        · obtain ⟨x1, x2, x3, x4⟩ := q'
          have x1' := (ExtN.of et).trans x1
          exact z1 _ _ ⟨D, ys, rfl, x1', x2, hy, x3, x4, fun o q => by rw [et _ _ q] at hD; cases hD⟩
      obtain ⟨fl, ys, rfl, td5⟩ := hp5
      refine q_seq (fun σ' H' => ∃ ys, σ' = [some (.ref l), some (.ref s), u2, u3, u4, some (.ref hd), some y, some (.ref fl), none] ∧ Told TL y 4 fl ys H'' H') (fun Z1 z1 => ?_) (fun σ6 H6 hp6 => ?_)
      · walk_at "rd"
        refine ⟨_, rfl, .inl ⟨rfl, _, .inl (.inl td5.l)⟩, td5.tb, fun Hc nc tc => ?_⟩
        have nb := td5.e.trans nc
        obtain ⟨d, dv, bd⟩ := OD Hc i (en.trans (hide_ext nb)) (nb _ _ hh fun ps z => nomatch z) (by omega)
        refine ⟨_, rfl, no0, y, .non, .none, rfl, .non, chkN_bad dv bd fun H1 e1 => met_word ER fun p He ee hp1 => ?_⟩
        obtain ⟨m1, m2⟩ := td5.more nc tc (e1.trans ee) hp1
        exact ⟨fl, _, _, rfl, rfl, m1, by rw [td5.n, sizeLine_eq]; decide, z1 _ _ ⟨_, rfl, m2⟩⟩
      obtain ⟨ys6, rfl, td6⟩ := hp6
      refine q_seq (fun σ' H' => ∃ ys, σ' = [some (.ref l), some (.ref s), u2, u3, u4, some (.ref hd), some y, some (.ref fl), none] ∧ Told TL y 5 fl ys H'' H') (fun Z1 z1 => ?_) (fun σ7 H7 hp7 => ?_)
      · walk_at "rd"
        refine ⟨_, rfl, .inl ⟨rfl, _, .inl (.inl td6.l)⟩, td6.tb, fun Hc nc tc => ?_⟩
        have nb := td6.e.trans nc
        obtain ⟨d, dv, bd⟩ := OD Hc i (en.trans (hide_ext nb)) (nb _ _ hh fun ps z => nomatch z) (by omega)
        refine ⟨_, rfl, no0, y, .non, .none, .non, .none, rfl, .non, .non, rfl, by decide, chkN_bad dv bd fun H1 e1 => met_word ER fun p He ee hp1 => ?_⟩
        obtain ⟨m1, m2⟩ := td6.more nc tc (e1.trans ee) hp1
        exact ⟨fl, _, _, rfl, rfl, m1, by rw [td6.n, sizeLine_eq]; decide, z1 _ _ ⟨_, rfl, m2⟩⟩
      obtain ⟨ys7, rfl, td7⟩ := hp7
      refine q_seq (fun σ' H' => ∃ ys, σ' = [some (.ref l), some (.ref s), u2, u3, u4, some (.ref hd), some y, some (.ref fl), none] ∧ Told TL y 6 fl ys H'' H') (fun Z1 z1 => ?_) (fun σ8 H8 hp8 => ?_)
      · walk_at "rd"
        refine ⟨_, rfl, .inl ⟨rfl, _, .inl (.inl td7.l)⟩, td7.tb, fun Hc nc tc => ?_⟩
        have nb := td7.e.trans nc
        obtain ⟨d, dv, bd⟩ := OD Hc i (en.trans (hide_ext nb)) (nb _ _ hh fun ps z => nomatch z) (by omega)
        refine ⟨by decide, fun pl hpl => ⟨_, rfl, ?_⟩⟩
        have epl := same_new hpl (.lst [])
        have hX : chkW (.str "X") = some (.v "X") := by
          unfold chkW
          rw [asW, if_pos (by decide +kernel)]
        refine ⟨no0, .str "X", .ref pl, .list [], y, d, rfl, .lst (.inl (.inl upd_same)) .nil, by rw [hide0]; exact DE.same epl dv, bd.z, bd.dp, .str "X", tr0 _, .str _, by decide +kernel, by decide, fun t' ht' => ?_, fun h => by rw [hX] at h; cases h⟩
        rw [hX] at ht'
        cases ht'
        refine ⟨by decide, by decide, fun u' hu' => ⟨fun _ H1 e1 => met_word ER fun p He ee hp1 => ?_, fun h => absurd bd.no h, fun w' ps' r' hw' => ?_⟩, fun h => by cases h⟩
        · obtain ⟨m1, m2⟩ := td7.more nc tc ((epl.trans e1).trans ee) hp1
          exact ⟨fl, _, _, rfl, rfl, m1, by rw [td7.n, sizeLine_eq]; decide, z1 _ _ ⟨_, rfl, m2⟩⟩
        · have := bd.no
          unfold chkW at this
          rw [hw'] at this
          cases this
      obtain ⟨ys8, rfl, td8⟩ := hp8
      have hh8 := td8.e _ _ hh fun ps z => nomatch z
      have en8 := en.trans (hide_ext (N := one hd) td8.e)
      have nfh : fl ≠ hd := fun z => by
        subst z
        have h1 := td8.l
        rw [hh8] at h1
        have h2 := HO.lst.inj (Option.some.inj h1)
        have h3 : (V.str "X") ∈ ys8 := by rw [← h2]; exact List.mem_cons_self
        obtain ⟨_, q, _⟩ := td8.w _ h3
        cases q
      refine q_seq (fun σ' H' => σ' = [some (.ref l), some (.ref s), u2, u3, u4, some (.ref hd), some y, some (.ref fl), none] ∧ ExtN (hide (one hd) Hz) (hide (one hd) H') ∧ Tabs TL H' ∧ H' hd = some (.lst (heldV (i + 1))) ∧ H' fl = some (.lst ys8) ∧ ∀ r ∈ ys8, ∃ p, r = V.ref p ∧ H' p = some (.tup [.str "word", y])) (fun Z1 z1 => ?_) (fun σ9 H9 hp9 => ?_)
      · walk_at "rd"
        refine ⟨_, rfl, .inl ⟨rfl, _, .inl (.inl hh8)⟩, hd, _, _, rfl, rfl, hh8, ?_, ?_⟩
        · unfold heldV
          rw [List.length_cons, List.length_replicate, sizeLine_eq]
          omega
        · refine z1 _ _ ⟨rfl, by rw [hide_in (show one hd hd from rfl)]; exact en8, tabs_upd td8.tb hh8, ?_, by rw [upd_ne nfh]; exact td8.l, fun r hr => ?_⟩
          · rw [upd_same]
            unfold heldV
            rw [List.replicate_succ']
            rfl
          · obtain ⟨p, rfl, hp'⟩ := td8.w r hr
            exact ⟨p, rfl, by rw [upd_ne (fun z => by rw [z, hh8] at hp'; cases hp')]; exact hp'⟩
      obtain ⟨rfl, en9, tb9, hh9, hfl9, hw9⟩ := hp9
      refine if_t false (fun Q1 q1 => ?_) (fun hb => nomatch hb) (fun _ Hd ed => ?_)
      · walk_at "rd"
        refine ⟨_, rfl, _, rfl, by decide, fun p3 hp3 => ⟨by decide, fun l3 hl3 => ?_⟩⟩
        have e3 := same_new hp3 (.tup [.str "word", y])
        have e4 := same_new hl3 (.lst [.ref p3])
        refine ⟨l3, 6, _, rfl, rfl, upd_same, by decide, by decide, by rw [sizeLine_eq]; exact (by decide : 6 ≤ 16777216), fun l4 hl4 => ?_⟩
        have e5 := same_new hl4 (.lst (List.replicate (6 : Int).toNat [V.ref p3]).flatten)
        have e345 := (e3.trans e4).trans e5
        obtain ⟨d, dv, bd⟩ := OD _ (i + 1) (en9.trans (hide_ext (ExtN.of e345))) (e345 _ _ hh9) (by omega)
        have h3 := (e4.trans e5) _ _ upd_same
        have hdd := bd.hd
        refine ⟨_, _, .list (List.replicate 6 (.tuple [.str "word", d])), rfl, .lst (.inl (.inl (e345 _ _ hfl9))) ?_, ?_, ?_, ?_, fun H5 e5' => ⟨_, rfl, q1 _ (e345.trans e5')⟩⟩
        · rw [← td8.n]
          refine des_rep ys8 fun r hr => ?_
          obtain ⟨p, rfl, hp'⟩ := hw9 r hr
          exact .tup (.inl (.inl (e345 _ _ hp'))) (.cons (.str _) (.cons dv .nil))
        · exact .lst (xs := List.replicate 6 (V.ref p3)) (.inl (.inl upd_same)) (by
            have := des_rep (K := K) (d := .tuple [.str "word", d]) (List.replicate 6 (V.ref p3)) fun r hr => by
              rw [(List.mem_replicate.mp hr).2]
              exact .tup (.inl (.inl h3)) (.cons (.str _) (.cons dv .nil))
            rw [List.length_replicate] at this
            exact this)
        · simp only [okS, okSs, bd.ok, List.replicate]
          rfl
        · simp only [hD, hDs, List.replicate]
          omega
      · exact ⟨_, _, rfl, en9.trans (hide_ext (ExtN.of ed)), tb9.ext ed, ed _ _ hh9⟩
    · obtain ⟨w6, w7, rfl, _⟩ := q'
      exact z _ _ ⟨_, _, rfl⟩
  obtain ⟨u6, u7, rfl⟩ := hp4
  have W1 : ∀ x : Str, x ∈ vrL → chkW (.list [.str "f", .str x]) = some (.n "f" [.v x]) ∧ okz (.list [.str "f", .str x]) = true := fun x hx => by
    have lo : Lo (.n "f" [.v x]) (.list [.str "f", .str x]) := .l (.cons (.v x) .nil)
    have ok : aOk (.n "f" [.v x]) = true := aOk_of (by rw [wOk, wOks, wOks, wOk, decide_eq_true hx]; exact (by decide +kernel : (decide (("f" : Str) ∈ nmL) && decide (1 ≤ 3) && (true && true)) = true))
    exact ⟨lo_chk lo ok, (lo_smlA lo ok).okz⟩
  have VO : ∀ {hd : Addr} {x : Str} {H : Hp} {Q : VK} {E : XK}, x ∈ vrL → H hd = some (.lst [.str "f", .str x]) → (∀ H' p, Same H H' → H p = none → H' p = some (.lst [.str x]) → Q (.ref p) H') → spVariables K (C 0) 12 [.ref hd] H Q E := fun {hd x H Q E} hx hh q => by
    obtain ⟨w1, w2⟩ := W1 x hx
    refine ⟨_, rfl, no0, .list [.str "f", .str x], tr0 H, by rw [hide0]; exact .lst (.inl (.inl hh)) (.cons (.str _) (.cons (.str _) .nil)), w2, by simp [PyData.depth, PyData.depthAll], fun t' ht' => ?_, fun h => by rw [w1] at h; cases h⟩
    rw [w1] at ht'
    cases ht'
    exact ⟨by simp [T.ht, T.hts], by simp [T.sz, T.szs], fun H' p e hn hp => q H' p e hn hp⟩
  have hXv : ("X" : Str) ∈ vrL := by decide +kernel
  have hYv : ("Y" : Str) ∈ vrL := by decide +kernel
  refine q_seq (fun σ' H' => ∃ h2, σ' = [some (.ref l), some (.ref s), u2, u3, u4, some (.ref h2), u6, u7, none] ∧ H' h2 = some (.lst [.str "f", .str "X"])) (fun Z z => ?_) (fun σ5 H5 hp5 => ?_)
  · walk_at "rd"
    exact ⟨by decide, fun p hp => z _ _ ⟨p, rfl, upd_same⟩⟩
  obtain ⟨h2, rfl, hh2⟩ := hp5
  refine q_seq (fun σ' H' => ∃ fl p1, σ' = [some (.ref l), some (.ref s), u2, u3, u4, some (.ref h2), u6, some (.ref fl), none] ∧ H' h2 = some (.lst [.str "f", .str "X"]) ∧ H' fl = some (.lst [.ref p1]) ∧ H' p1 = some (.lst [.str "X"]) ∧ fl ≠ h2 ∧ p1 ≠ h2) (fun Z z => ?_) (fun σ6 H6 hp6 => ?_)
  · walk_at "rd"
    refine ⟨_, rfl, VO hXv hh2 fun Ha p1 ea hn hp1 => ⟨by decide, fun fl hfl => ?_⟩⟩
    have ef := same_new hfl (.lst [.ref p1])
    have hha := ea _ _ hh2
    exact z _ _ ⟨fl, p1, rfl, ef _ _ hha, upd_same, ef _ _ hp1, (fun q => by subst q; rw [hha] at hfl; cases hfl), (fun q => by subst q; rw [hh2] at hn; cases hn)⟩
  obtain ⟨fl, p1, rfl, hh6, hfl6, hp16, nf, np⟩ := hp6
  refine q_seq (fun σ' H' => σ' = [some (.ref l), some (.ref s), u2, u3, u4, some (.ref h2), u6, some (.ref fl), none] ∧ H' h2 = some (.lst [.str "f", .str "Y"]) ∧ H' fl = some (.lst [.ref p1]) ∧ H' p1 = some (.lst [.str "X"])) (fun Z z => ?_) (fun σ7 H7 hp7 => ?_)
  · walk_at "rd"
    exact ⟨_, rfl, h2, _, 1, 1, rfl, rfl, hh6, rfl, z _ _ ⟨rfl, upd_same, by rw [upd_ne nf]; exact hfl6, by rw [upd_ne np]; exact hp16⟩⟩
  obtain ⟨rfl, hh7, hfl7, hp17⟩ := hp7
  refine q_seq (fun σ' H' => ∃ p2, σ' = [some (.ref l), some (.ref s), u2, u3, u4, some (.ref h2), u6, some (.ref fl), none] ∧ H' h2 = some (.lst [.str "f", .str "Y"]) ∧ H' fl = some (.lst [.ref p1, .ref p2]) ∧ H' p1 = some (.lst [.str "X"]) ∧ H' p2 = some (.lst [.str "Y"]) ∧ p2 ≠ h2) (fun Z z => ?_) (fun σ8 H8 hp8 => ?_)
  · walk_at "rd"
    refine ⟨_, rfl, .inl ⟨rfl, _, .inl (.inl hfl7)⟩, _, rfl, VO hYv hh7 fun Ha p2 ea hn hp2 => ?_⟩
    have hfa := ea _ _ hfl7
    have n1 : p1 ≠ fl := fun q => by subst q; rw [hp17] at hfl7; cases hfl7
    have n2 : p2 ≠ fl := fun q => by subst q; rw [hfl7] at hn; cases hn
    refine ⟨fl, _, _, rfl, rfl, hfa, by rw [sizeLine_eq]; exact (by decide : 1 < 16777216), z _ _ ⟨p2, rfl, by rw [upd_ne (Ne.symm nf)]; exact ea _ _ hh7, upd_same, by rw [upd_ne n1]; exact ea _ _ hp17, by rw [upd_ne n2]; exact hp2, fun q => by subst q; rw [hh7] at hn; cases hn⟩⟩
  obtain ⟨p2, rfl, hh8, hfl8, hp18, hp28, np2⟩ := hp8
  refine q_seq (fun σ' H' => σ' = [some (.ref l), some (.ref s), u2, u3, u4, some (.ref h2), u6, some (.ref fl), none] ∧ H' h2 = some (.lst [.str "f", .str "X"]) ∧ H' fl = some (.lst [.ref p1, .ref p2]) ∧ H' p1 = some (.lst [.str "X"]) ∧ H' p2 = some (.lst [.str "Y"])) (fun Z z => ?_) (fun σ9 H9 hp9 => ?_)
  · walk_at "rd"
    exact ⟨_, rfl, h2, _, 1, 1, rfl, rfl, hh8, rfl, z _ _ ⟨rfl, upd_same, by rw [upd_ne nf]; exact hfl8, by rw [upd_ne np]; exact hp18, by rw [upd_ne np2]; exact hp28⟩⟩
  obtain ⟨rfl, hh9, hfl9, hp19, hp29⟩ := hp9
  walk_at "rd"
  refine ⟨_, rfl, _, rfl, VO hXv hh9 fun Ha p3 ea hn hp3 => ⟨by decide, fun l3 hl3 => ?_⟩⟩
  have e3 := same_new hl3 (.lst [.ref p3])
  have a3 := ea.trans e3
  refine ⟨fl, l3, _, _, rfl, rfl, a3 _ _ hfl9, upd_same, by rw [sizeLine_eq]; exact (by decide : 3 ≤ 16777216), fun l4 hl4 => ?_⟩
  have e4 := same_new hl4 (.lst ([V.ref p1, V.ref p2] ++ [V.ref p3]))
  have a4 := a3.trans e4
  refine ⟨by decide, fun q1 hq1 => ⟨by decide, fun q2 hq2 => ⟨by decide, fun q3 hq3 => ⟨by decide, fun q4 hq4 => ?_⟩⟩⟩⟩
  have f1 := same_new hq1 (.lst [.str "X"])
  have f2 := same_new hq2 (.lst [.str "Y"])
  have f3 := same_new hq3 (.lst [.str "X"])
  have f4 := same_new hq4 (.lst [.ref q1, .ref q2, .ref q3])
  have f34 := f3.trans f4
  have f234 := f2.trans f34
  have f1234 := f1.trans f234
  have one1 : ∀ {H : Hp} {p : Addr} {x : Str}, H p = some (.lst [.str x]) → DE K H (.ref p) (.list [.str x]) := fun h => .lst (.inl (.inl h)) (.cons (.str _) .nil)
  refine ⟨_, _, .list [.list [.str "X"], .list [.str "Y"], .list [.str "X"]], rfl, .lst (.inl (.inl (f1234 _ _ upd_same))) ?_, .lst (.inl (.inl upd_same)) ?_, rfl, by simp [hD, hDs], fun H5 e5 => k H5⟩
  · exact .cons (one1 (f1234 _ _ (a4 _ _ hp19))) (.cons (one1 (f1234 _ _ (a4 _ _ hp29))) (.cons (one1 (f1234 _ _ ((e3.trans e4) _ _ hp3))) .nil))
  · exact .cons (one1 (f234 _ _ upd_same)) (.cons (one1 (f34 _ _ upd_same)) (.cons (one1 (f4 _ _ upd_same)) .nil))
end
end WD

-- text: End0
set_option Elab.async false
set_option linter.all false
set_option maxRecDepth 100000
set_option maxHeartbeats 4000000
namespace WD
open PySem PySem.Spec PyProof.Rows L2 GB GL LamX XR
open DB hiding isi1 isiT
local macro_rules | `(tactic| walk_at "rd") => `(tactic| (dsimp only [cxOf, Cx.nox, L2.start, tRet, tRetN, tCB, tCons, tNil, tC, tVar, tTup, tLst, tB, tTest, tAnd, tOr, tNot, tAndV, tOrV, tNotV, tIfS, tIf, tSeq, tNext, tDrop, tOp, tUn, tAsg, gName, gSub, tSl, tPart, tNoPart, tCall, tPar, tBM, tChain, tYes, StX.tStar, tFld, tNotN, tIsN, tDNotIn, tDIn, tDGet, tDGet2, tDNewK, gTup, gCons, gNil, tLockE, iKeys, XR.iZipTN, sFld, sDPut, iEnum, XR.iEnumK, XR.iEnumT, iList, RZ.iZipA, iTup, iRng1, iRng2, tMake, tPar3, tRevL, XR.tTwo3, List.length_cons, List.length_nil, List.set_cons_zero, List.set_cons_succ, List.nil_append, List.cons_append, List.append_nil]))
section
variable {P : Program} {w : World} {K : PySem.W.Frag} {mg : Str → Option Value} {base : Heap}

theorem CalleeX.mono {j k : Nat} {x : Str} {ps : List Str} {sp : Sp} (C : CalleeX P w K mg base j x ps sp) (h : j ≤ k) : CalleeX P w K mg base k x ps sp := by
  obtain ⟨f, fd, a, b, c, d⟩ := C.ex
  exact ⟨f, fd, a.mono h, b, c, d⟩
structure Fns (K : PySem.W.Frag) (mg : Str → Option Value) : Prop where
  d_is_list : Def K mg "is_list" st_is_list ["thing"]
  d_is_integer : Def K mg "is_integer" st_is_integer ["thing"]
  d_is_number : Def K mg "is_number" st_is_number ["thing"]
  d_is_name : Def K mg "is_name" st_is_name ["thing"]
  d_is_variable : Def K mg "is_variable" st_is_variable ["thing"]
  d_as_word : Def K mg "as_word" st_as_word ["thing"]
  d_as_atom : Def K mg "as_atom" st_as_atom ["thing"]
  d_checked_word : Def K mg "checked_word" st_checked_word ["thing"]
  d_places_in : Def K mg "places_in" st_places_in ["word", "place"]
  d_at_in : Def K mg "at_in" st_at_in ["word", "place"]
  d_with_part : Def K mg "with_part" st_with_part ["word", "place", "part"]
  d_met_in : Def K mg "met_in" st_met_in ["word", "known"]
  d_depth_in : Def K mg "depth_in" st_depth_in ["word"]
  d_places : Def K mg "places" st_places ["word"]
  d_checked_part : Def K mg "checked_part" st_checked_part ["word", "place"]
  d_word_at : Def K mg "word_at" st_word_at ["word", "place"]
  d_word_put : Def K mg "word_put" st_word_put ["word", "place", "part"]
  d_depth : Def K mg "depth" st_depth ["word"]
  d_variables_of : Def K mg "variables_of" st_variables_of ["word"]
  d__law_d_word : Def K mg "_law_d_word" st__law_d_word ["stream", "level", "variables"]
  d__law_d_atom : Def K mg "_law_d_atom" st__law_d_atom ["stream", "level", "variables"]
  d__law_d_parts : Def K mg "_law_d_parts" st__law_d_parts ["word"]
  d__law_d_variables : Def K mg "_law_d_variables" st__law_d_variables ["words"]
  d__law_d_odd_words : Def K mg "_law_d_odd_words" st__law_d_odd_words []
  d__law_d_loose : Def K mg "_law_d_loose" st__law_d_loose ["stream", "word"]
  d__law_d_met : Def K mg "_law_d_met" st__law_d_met ["ask"]
  d__law_start : Def K mg "_law_start" st__law_start ["script"]
  d__law_draw : Def K mg "_law_draw" st__law_draw ["stream", "many"]
  d__law_pick : Def K mg "_law_pick" st__law_pick ["stream", "some"]
  d__law_same : Def K mg "_law_same" st__law_same ["found", "due"]
  d__law_each_once : Def K mg "_law_each_once" st__law_each_once ["things"]
  d__law_depth : Def K mg "_law_depth" st__law_depth ["word"]
  d__law_exchanged : Def K mg "_law_exchanged" st__law_exchanged ["word", "place", "part"]

theorem chain (G : Glob K mg) (D : Fns K mg) {C : Nat → Addr} (ER : Errs K mg C) (EW : Err K mg "BadWord" "thing" st_BadWord___init__ (C 0)) (EP : Err K mg "BadPlace" "thing" st_BadPlace___init__ (C 1)) {cR pR cL pL : Addr} (hne : pR ≠ pL)
    (DR : DefC K mg "_law_word_right" st__law_word_right ["stream", "word", "part"] cR) (TR : TabB base mg cR pR) (TLw : TabB base mg cL pL) {f : Addr} {fd : FuncData} (F : ∃ (oc : Value) (od : Option Addr) (kV doc pm : Value) (an : Option Addr) (ct : Value) (osl : Array (Option Value)),
    fd = PySem.W.fnOf "law" "law" (defArgs st_law) (defBody st_law) (defScope st_law) .none kV doc pm an (.ref cL) ct ∧ K.lookup f = some ⟨oc, od, .func fd, osl⟩ ∧ PySem.W.codeIn K (.ref cL) "law" = true) :
    FnG P w K mg base CX0 21 f fd ["script"] (spLaw K [(pR, lamQ "_law_word_right"), (pL, lamQ "law")]) := by
  have c_is_list := ok_is_list (P := P) (w := w) (base := base) G D.d_is_list
  have c_is_integer := ok_is_integer (P := P) (w := w) (base := base) G D.d_is_integer
  have c_is_number := ok_is_number D.d_is_number c_is_integer
  have c_is_name := ok_is_name (P := P) (w := w) (base := base) G D.d_is_name
  have c_is_variable := ok_is_variable (P := P) (w := w) (base := base) G D.d_is_variable
  have c_as_word := ok_as_word G D.d_as_word c_is_variable c_is_list c_is_name 12 (by decide)
  have c_as_atom := ok_as_atom G D.d_as_atom (n := 12) (by decide) c_is_list c_as_word
  have eW := ok_BadWord (P := P) (w := w) (base := base) EW
  have eP := ok_BadPlace (P := P) (w := w) (base := base) EP
  have c_checked_word := ok_checked_word D.d_checked_word (n := 12) (j := 14) (by decide) eW (c_as_word.mono (by decide)) c_as_atom
  have c_places_in := ok_places_in (P := P) (w := w) (base := base) G D.d_places_in 12
  have c_places := ok_places D.d_places (n := 12) (j := 15) (by decide) (by decide) c_checked_word c_places_in
  have c_depth_in := ok_depth_in (P := P) (w := w) (base := base) G D.d_depth_in 12
  have c_depth := ok_depth D.d_depth (n := 12) (j := 15) (by decide) c_checked_word c_depth_in
  have c_met_in := ok_met_in (P := P) (w := w) (base := base) G D.d_met_in 12
  have c_variables_of := ok_variables_of G D.d_variables_of (n := 12) (j := 15) (by decide) c_checked_word c_met_in
  have c_at_in := ok_at_in G D.d_at_in c_is_number
  have c_checked_part := ok_checked_part D.d_checked_part (n := 12) (j := 15) (by decide) c_checked_word c_is_list c_at_in eP
  have c_word_at := ok_word_at D.d_word_at c_checked_part
  have c_with_part := ok_with_part (P := P) (w := w) (base := base) G D.d_with_part 12
  have c_word_put := ok_word_put G D.d_word_put (n := 12) (j := 16) (i := 13) (by decide) (by decide) (by decide) (by decide) (c_checked_word.mono (by decide)) c_checked_part c_as_word c_with_part eW
  have c_draw := ok_draw (P := P) (w := w) (base := base) G D.d__law_draw
  have c_pick := ok_pick G D.d__law_pick c_draw
  have c_start := ok_start (P := P) (w := w) (base := base) G D.d__law_start
  have c_loose := ok_d_loose G D.d__law_d_loose c_draw 12
  have c_parts := ok_d_parts (P := P) (w := w) (base := base) G D.d__law_d_parts 12 (by decide)
  have c_once := ok_once (P := P) (w := w) (base := base) D.d__law_each_once
  have c_vars := ok_d_vars G D.d__law_d_variables c_parts c_once
  have c_same := ok_same (P := P) (w := w) (base := base) G D.d__law_same 12
  have c_word := ok_d_word G D.d__law_d_word c_draw c_pick 12
  have c_atom := ok_d_atom G D.d__law_d_atom c_pick c_word
  have c_odd := ok_odd (P := P) (w := w) (base := base) D.d__law_d_odd_words
  have c_ldepth := ok__law_depth (P := P) (w := w) (base := base) G D.d__law_depth 12
  have c_exch := ok__law_exchanged (P := P) (w := w) (base := base) G D.d__law_exchanged 12
  have m1 : (pR, lamQ "_law_word_right") ∈ [(pR, lamQ "_law_word_right"), (pL, lamQ "law")] := List.mem_cons_self
  have m2 : (pL, lamQ "law") ∈ [(pR, lamQ "_law_word_right"), (pL, lamQ "law")] := List.mem_cons_of_mem _ List.mem_cons_self
  have u1 : ∀ p ∈ [(pR, lamQ "_law_word_right"), (pL, lamQ "law")], p.1 = pR → p.2 = lamQ "_law_word_right" := fun p hp e => by
    rcases List.mem_cons.mp hp with rfl | hp
    · rfl
    · rw [List.mem_singleton] at hp
      subst hp
      exact absurd e.symm hne
  have u2 : ∀ p ∈ [(pR, lamQ "_law_word_right"), (pL, lamQ "law")], p.1 = pL → p.2 = lamQ "law" := fun p hp e => by
    rcases List.mem_cons.mp hp with rfl | hp
    · exact absurd e hne
    · rw [List.mem_singleton] at hp
      subst hp
      rfl
  have c_right := ok_right G DR TR m1 u1 D.d__law_d_met ER c_loose c_parts (c_places.mono (show 16 ≤ 17 by decide)) c_same c_draw c_word_at c_word_put c_exch (c_depth.mono (show 16 ≤ 17 by decide)) (c_variables_of.mono (show 16 ≤ 17 by decide)) c_ldepth c_vars (j := 19) (by decide) (by decide)
  exact ok_law G F TLw m2 u2 D.d__law_d_met ER c_start c_draw c_word c_atom c_right c_odd (c_places.mono (show 16 ≤ 17 by decide)) (c_depth.mono (show 16 ≤ 17 by decide)) (c_variables_of.mono (show 16 ≤ 17 by decide)) c_word_at c_word_put c_same (j := 20) (by decide) (by decide)
end
def tabOf (K : PySem.W.Frag) (c : Addr) : Addr := match K.lookup c with
  | some ⟨_, _, .fields vs, _⟩ => (match (vs[11]? : Option Value) with | some (.ref P) => P | _ => 0)
  | _ => 0
theorem all_mk {l : PySem.W.OpenLaw} {w : World} {K : PySem.W.Frag} {h : Heap} {mg : Str → Option Value} {fa aW cR cL : Addr} {f_is_list f_is_integer f_is_number f_is_name f_is_variable f_as_word f_as_atom f_checked_word f_places_in f_at_in f_with_part f_met_in f_depth_in f_places f_checked_part f_word_at f_word_put f_depth f_variables_of f__law_d_word f__law_d_atom f__law_d_parts f__law_d_variables f__law_d_odd_words f__law_d_loose f__law_d_met f__law_start f__law_draw f__law_pick f__law_same f__law_each_once f__law_depth f__law_exchanged f__law_word_right f_law : Addr} {C0 C1 C2 C3 C4 C5 C6 C7 C8 C9 C10 C11 C12 C13 fi0 fi1 : Addr}
    (X : K.In h) (G : h.Ns mainGlobals mg) (hfa : mg "law" = some (.ref fa))
    {ts : List Addr} (yT : ∀ P ∈ ts, h.get? P = some (PySem.W.tabObj #[]))
    {od_is_list an_is_list od_is_integer an_is_integer od_is_number an_is_number od_is_name an_is_name od_is_variable an_is_variable od_as_word an_as_word od_as_atom an_as_atom od_checked_word an_checked_word od_places_in an_places_in od_at_in an_at_in od_with_part an_with_part od_met_in an_met_in od_depth_in an_depth_in od_places an_places od_checked_part an_checked_part od_word_at an_word_at od_word_put an_word_put od_depth an_depth od_variables_of an_variables_of od__law_d_word an__law_d_word od__law_d_atom an__law_d_atom od__law_d_parts an__law_d_parts od__law_d_variables an__law_d_variables od__law_d_odd_words an__law_d_odd_words od__law_d_loose an__law_d_loose od__law_d_met an__law_d_met od__law_start an__law_start od__law_draw an__law_draw od__law_pick an__law_pick od__law_same an__law_same od__law_each_once an__law_each_once od__law_depth an__law_depth od__law_exchanged an__law_exchanged od__law_word_right an__law_word_right od_law an_law od_fi0 an_fi0 od_fi1 an_fi1 : Option Addr} {sl_is_list sl_is_integer sl_is_number sl_is_name sl_is_variable sl_as_word sl_as_atom sl_checked_word sl_places_in sl_at_in sl_with_part sl_met_in sl_depth_in sl_places sl_checked_part sl_word_at sl_word_put sl_depth sl_variables_of sl__law_d_word sl__law_d_atom sl__law_d_parts sl__law_d_variables sl__law_d_odd_words sl__law_d_loose sl__law_d_met sl__law_start sl__law_draw sl__law_pick sl__law_same sl__law_each_once sl__law_depth sl__law_exchanged sl__law_word_right sl_law sl_fi0 sl_fi1 : Array (Option Value)} {oc_is_list kV_is_list dc_is_list pm_is_list ct_is_list cd_is_list oc_is_integer kV_is_integer dc_is_integer pm_is_integer ct_is_integer cd_is_integer oc_is_number kV_is_number dc_is_number pm_is_number ct_is_number cd_is_number oc_is_name kV_is_name dc_is_name pm_is_name ct_is_name cd_is_name oc_is_variable kV_is_variable dc_is_variable pm_is_variable ct_is_variable cd_is_variable oc_as_word kV_as_word dc_as_word pm_as_word ct_as_word cd_as_word oc_as_atom kV_as_atom dc_as_atom pm_as_atom ct_as_atom cd_as_atom oc_checked_word kV_checked_word dc_checked_word pm_checked_word ct_checked_word cd_checked_word oc_places_in kV_places_in dc_places_in pm_places_in ct_places_in cd_places_in oc_at_in kV_at_in dc_at_in pm_at_in ct_at_in cd_at_in oc_with_part kV_with_part dc_with_part pm_with_part ct_with_part cd_with_part oc_met_in kV_met_in dc_met_in pm_met_in ct_met_in cd_met_in oc_depth_in kV_depth_in dc_depth_in pm_depth_in ct_depth_in cd_depth_in oc_places kV_places dc_places pm_places ct_places cd_places oc_checked_part kV_checked_part dc_checked_part pm_checked_part ct_checked_part cd_checked_part oc_word_at kV_word_at dc_word_at pm_word_at ct_word_at cd_word_at oc_word_put kV_word_put dc_word_put pm_word_put ct_word_put cd_word_put oc_depth kV_depth dc_depth pm_depth ct_depth cd_depth oc_variables_of kV_variables_of dc_variables_of pm_variables_of ct_variables_of cd_variables_of oc__law_d_word kV__law_d_word dc__law_d_word pm__law_d_word ct__law_d_word cd__law_d_word oc__law_d_atom kV__law_d_atom dc__law_d_atom pm__law_d_atom ct__law_d_atom cd__law_d_atom oc__law_d_parts kV__law_d_parts dc__law_d_parts pm__law_d_parts ct__law_d_parts cd__law_d_parts oc__law_d_variables kV__law_d_variables dc__law_d_variables pm__law_d_variables ct__law_d_variables cd__law_d_variables oc__law_d_odd_words kV__law_d_odd_words dc__law_d_odd_words pm__law_d_odd_words ct__law_d_odd_words cd__law_d_odd_words oc__law_d_loose kV__law_d_loose dc__law_d_loose pm__law_d_loose ct__law_d_loose cd__law_d_loose oc__law_d_met kV__law_d_met dc__law_d_met pm__law_d_met ct__law_d_met cd__law_d_met oc__law_start kV__law_start dc__law_start pm__law_start ct__law_start cd__law_start oc__law_draw kV__law_draw dc__law_draw pm__law_draw ct__law_draw cd__law_draw oc__law_pick kV__law_pick dc__law_pick pm__law_pick ct__law_pick cd__law_pick oc__law_same kV__law_same dc__law_same pm__law_same ct__law_same cd__law_same oc__law_each_once kV__law_each_once dc__law_each_once pm__law_each_once ct__law_each_once cd__law_each_once oc__law_depth kV__law_depth dc__law_depth pm__law_depth ct__law_depth cd__law_depth oc__law_exchanged kV__law_exchanged dc__law_exchanged pm__law_exchanged ct__law_exchanged cd__law_exchanged oc__law_word_right kV__law_word_right dc__law_word_right pm__law_word_right ct__law_word_right oc_law kV_law dc_law pm_law ct_law oc_fi0 kV_fi0 dc_fi0 pm_fi0 ct_fi0 cd_fi0 oc_fi1 kV_fi1 dc_fi1 pm_fi1 ct_fi1 cd_fi1 : Value}
    {nm_e0 q_e0 : Str} {N_e0 S_e0 : Addr} {bs_e0 sub_e0 : List Value} {sn_e0 : List Str} {ab_e0 : Bool} {col_e0 : Option Bool} {dd_e0 : Option Addr} {ka_e0 kb_e0 kc_e0 kd_e0 ke_e0 : Option Value}
    {nm_e1 q_e1 : Str} {N_e1 S_e1 : Addr} {bs_e1 sub_e1 : List Value} {sn_e1 : List Str} {ab_e1 : Bool} {col_e1 : Option Bool} {dd_e1 : Option Addr} {ka_e1 kb_e1 kc_e1 kd_e1 ke_e1 : Option Value}
    {tS tF tK : Tok} {odW : Option Addr} {itW : Array Value} {nW : Nat} {slW : Array (Option Value)}
    (a_is_list : PySem.W.nsIn K mainGlobals "is_list" = some (some (.ref f_is_list))) (l_is_list : K.lookup f_is_list = some ⟨oc_is_list, od_is_list, .func (PySem.W.fnOf "is_list" "is_list" (defArgs st_is_list) (defBody st_is_list) (defScope st_is_list) .none kV_is_list dc_is_list pm_is_list an_is_list cd_is_list ct_is_list), sl_is_list⟩) (c_is_list : PySem.W.codeIn K cd_is_list "is_list" = true) (k_is_list : PySem.W.keepIn K (.ref f_is_list) = true)
    (a_is_integer : PySem.W.nsIn K mainGlobals "is_integer" = some (some (.ref f_is_integer))) (l_is_integer : K.lookup f_is_integer = some ⟨oc_is_integer, od_is_integer, .func (PySem.W.fnOf "is_integer" "is_integer" (defArgs st_is_integer) (defBody st_is_integer) (defScope st_is_integer) .none kV_is_integer dc_is_integer pm_is_integer an_is_integer cd_is_integer ct_is_integer), sl_is_integer⟩) (c_is_integer : PySem.W.codeIn K cd_is_integer "is_integer" = true) (k_is_integer : PySem.W.keepIn K (.ref f_is_integer) = true)
    (a_is_number : PySem.W.nsIn K mainGlobals "is_number" = some (some (.ref f_is_number))) (l_is_number : K.lookup f_is_number = some ⟨oc_is_number, od_is_number, .func (PySem.W.fnOf "is_number" "is_number" (defArgs st_is_number) (defBody st_is_number) (defScope st_is_number) .none kV_is_number dc_is_number pm_is_number an_is_number cd_is_number ct_is_number), sl_is_number⟩) (c_is_number : PySem.W.codeIn K cd_is_number "is_number" = true) (k_is_number : PySem.W.keepIn K (.ref f_is_number) = true)
    (a_is_name : PySem.W.nsIn K mainGlobals "is_name" = some (some (.ref f_is_name))) (l_is_name : K.lookup f_is_name = some ⟨oc_is_name, od_is_name, .func (PySem.W.fnOf "is_name" "is_name" (defArgs st_is_name) (defBody st_is_name) (defScope st_is_name) .none kV_is_name dc_is_name pm_is_name an_is_name cd_is_name ct_is_name), sl_is_name⟩) (c_is_name : PySem.W.codeIn K cd_is_name "is_name" = true) (k_is_name : PySem.W.keepIn K (.ref f_is_name) = true)
    (a_is_variable : PySem.W.nsIn K mainGlobals "is_variable" = some (some (.ref f_is_variable))) (l_is_variable : K.lookup f_is_variable = some ⟨oc_is_variable, od_is_variable, .func (PySem.W.fnOf "is_variable" "is_variable" (defArgs st_is_variable) (defBody st_is_variable) (defScope st_is_variable) .none kV_is_variable dc_is_variable pm_is_variable an_is_variable cd_is_variable ct_is_variable), sl_is_variable⟩) (c_is_variable : PySem.W.codeIn K cd_is_variable "is_variable" = true) (k_is_variable : PySem.W.keepIn K (.ref f_is_variable) = true)
    (a_as_word : PySem.W.nsIn K mainGlobals "as_word" = some (some (.ref f_as_word))) (l_as_word : K.lookup f_as_word = some ⟨oc_as_word, od_as_word, .func (PySem.W.fnOf "as_word" "as_word" (defArgs st_as_word) (defBody st_as_word) (defScope st_as_word) .none kV_as_word dc_as_word pm_as_word an_as_word cd_as_word ct_as_word), sl_as_word⟩) (c_as_word : PySem.W.codeIn K cd_as_word "as_word" = true) (k_as_word : PySem.W.keepIn K (.ref f_as_word) = true)
    (a_as_atom : PySem.W.nsIn K mainGlobals "as_atom" = some (some (.ref f_as_atom))) (l_as_atom : K.lookup f_as_atom = some ⟨oc_as_atom, od_as_atom, .func (PySem.W.fnOf "as_atom" "as_atom" (defArgs st_as_atom) (defBody st_as_atom) (defScope st_as_atom) .none kV_as_atom dc_as_atom pm_as_atom an_as_atom cd_as_atom ct_as_atom), sl_as_atom⟩) (c_as_atom : PySem.W.codeIn K cd_as_atom "as_atom" = true) (k_as_atom : PySem.W.keepIn K (.ref f_as_atom) = true)
    (a_checked_word : PySem.W.nsIn K mainGlobals "checked_word" = some (some (.ref f_checked_word))) (l_checked_word : K.lookup f_checked_word = some ⟨oc_checked_word, od_checked_word, .func (PySem.W.fnOf "checked_word" "checked_word" (defArgs st_checked_word) (defBody st_checked_word) (defScope st_checked_word) .none kV_checked_word dc_checked_word pm_checked_word an_checked_word cd_checked_word ct_checked_word), sl_checked_word⟩) (c_checked_word : PySem.W.codeIn K cd_checked_word "checked_word" = true) (k_checked_word : PySem.W.keepIn K (.ref f_checked_word) = true)
    (a_places_in : PySem.W.nsIn K mainGlobals "places_in" = some (some (.ref f_places_in))) (l_places_in : K.lookup f_places_in = some ⟨oc_places_in, od_places_in, .func (PySem.W.fnOf "places_in" "places_in" (defArgs st_places_in) (defBody st_places_in) (defScope st_places_in) .none kV_places_in dc_places_in pm_places_in an_places_in cd_places_in ct_places_in), sl_places_in⟩) (c_places_in : PySem.W.codeIn K cd_places_in "places_in" = true) (k_places_in : PySem.W.keepIn K (.ref f_places_in) = true)
    (a_at_in : PySem.W.nsIn K mainGlobals "at_in" = some (some (.ref f_at_in))) (l_at_in : K.lookup f_at_in = some ⟨oc_at_in, od_at_in, .func (PySem.W.fnOf "at_in" "at_in" (defArgs st_at_in) (defBody st_at_in) (defScope st_at_in) .none kV_at_in dc_at_in pm_at_in an_at_in cd_at_in ct_at_in), sl_at_in⟩) (c_at_in : PySem.W.codeIn K cd_at_in "at_in" = true) (k_at_in : PySem.W.keepIn K (.ref f_at_in) = true)
    (a_with_part : PySem.W.nsIn K mainGlobals "with_part" = some (some (.ref f_with_part))) (l_with_part : K.lookup f_with_part = some ⟨oc_with_part, od_with_part, .func (PySem.W.fnOf "with_part" "with_part" (defArgs st_with_part) (defBody st_with_part) (defScope st_with_part) .none kV_with_part dc_with_part pm_with_part an_with_part cd_with_part ct_with_part), sl_with_part⟩) (c_with_part : PySem.W.codeIn K cd_with_part "with_part" = true) (k_with_part : PySem.W.keepIn K (.ref f_with_part) = true)
    (a_met_in : PySem.W.nsIn K mainGlobals "met_in" = some (some (.ref f_met_in))) (l_met_in : K.lookup f_met_in = some ⟨oc_met_in, od_met_in, .func (PySem.W.fnOf "met_in" "met_in" (defArgs st_met_in) (defBody st_met_in) (defScope st_met_in) .none kV_met_in dc_met_in pm_met_in an_met_in cd_met_in ct_met_in), sl_met_in⟩) (c_met_in : PySem.W.codeIn K cd_met_in "met_in" = true) (k_met_in : PySem.W.keepIn K (.ref f_met_in) = true)
    (a_depth_in : PySem.W.nsIn K mainGlobals "depth_in" = some (some (.ref f_depth_in))) (l_depth_in : K.lookup f_depth_in = some ⟨oc_depth_in, od_depth_in, .func (PySem.W.fnOf "depth_in" "depth_in" (defArgs st_depth_in) (defBody st_depth_in) (defScope st_depth_in) .none kV_depth_in dc_depth_in pm_depth_in an_depth_in cd_depth_in ct_depth_in), sl_depth_in⟩) (c_depth_in : PySem.W.codeIn K cd_depth_in "depth_in" = true) (k_depth_in : PySem.W.keepIn K (.ref f_depth_in) = true)
    (a_places : PySem.W.nsIn K mainGlobals "places" = some (some (.ref f_places))) (l_places : K.lookup f_places = some ⟨oc_places, od_places, .func (PySem.W.fnOf "places" "places" (defArgs st_places) (defBody st_places) (defScope st_places) .none kV_places dc_places pm_places an_places cd_places ct_places), sl_places⟩) (c_places : PySem.W.codeIn K cd_places "places" = true) (k_places : PySem.W.keepIn K (.ref f_places) = true)
    (a_checked_part : PySem.W.nsIn K mainGlobals "checked_part" = some (some (.ref f_checked_part))) (l_checked_part : K.lookup f_checked_part = some ⟨oc_checked_part, od_checked_part, .func (PySem.W.fnOf "checked_part" "checked_part" (defArgs st_checked_part) (defBody st_checked_part) (defScope st_checked_part) .none kV_checked_part dc_checked_part pm_checked_part an_checked_part cd_checked_part ct_checked_part), sl_checked_part⟩) (c_checked_part : PySem.W.codeIn K cd_checked_part "checked_part" = true) (k_checked_part : PySem.W.keepIn K (.ref f_checked_part) = true)
    (a_word_at : PySem.W.nsIn K mainGlobals "word_at" = some (some (.ref f_word_at))) (l_word_at : K.lookup f_word_at = some ⟨oc_word_at, od_word_at, .func (PySem.W.fnOf "word_at" "word_at" (defArgs st_word_at) (defBody st_word_at) (defScope st_word_at) .none kV_word_at dc_word_at pm_word_at an_word_at cd_word_at ct_word_at), sl_word_at⟩) (c_word_at : PySem.W.codeIn K cd_word_at "word_at" = true) (k_word_at : PySem.W.keepIn K (.ref f_word_at) = true)
    (a_word_put : PySem.W.nsIn K mainGlobals "word_put" = some (some (.ref f_word_put))) (l_word_put : K.lookup f_word_put = some ⟨oc_word_put, od_word_put, .func (PySem.W.fnOf "word_put" "word_put" (defArgs st_word_put) (defBody st_word_put) (defScope st_word_put) .none kV_word_put dc_word_put pm_word_put an_word_put cd_word_put ct_word_put), sl_word_put⟩) (c_word_put : PySem.W.codeIn K cd_word_put "word_put" = true) (k_word_put : PySem.W.keepIn K (.ref f_word_put) = true)
    (a_depth : PySem.W.nsIn K mainGlobals "depth" = some (some (.ref f_depth))) (l_depth : K.lookup f_depth = some ⟨oc_depth, od_depth, .func (PySem.W.fnOf "depth" "depth" (defArgs st_depth) (defBody st_depth) (defScope st_depth) .none kV_depth dc_depth pm_depth an_depth cd_depth ct_depth), sl_depth⟩) (c_depth : PySem.W.codeIn K cd_depth "depth" = true) (k_depth : PySem.W.keepIn K (.ref f_depth) = true)
    (a_variables_of : PySem.W.nsIn K mainGlobals "variables_of" = some (some (.ref f_variables_of))) (l_variables_of : K.lookup f_variables_of = some ⟨oc_variables_of, od_variables_of, .func (PySem.W.fnOf "variables_of" "variables_of" (defArgs st_variables_of) (defBody st_variables_of) (defScope st_variables_of) .none kV_variables_of dc_variables_of pm_variables_of an_variables_of cd_variables_of ct_variables_of), sl_variables_of⟩) (c_variables_of : PySem.W.codeIn K cd_variables_of "variables_of" = true) (k_variables_of : PySem.W.keepIn K (.ref f_variables_of) = true)
    (a__law_d_word : PySem.W.nsIn K mainGlobals "_law_d_word" = some (some (.ref f__law_d_word))) (l__law_d_word : K.lookup f__law_d_word = some ⟨oc__law_d_word, od__law_d_word, .func (PySem.W.fnOf "_law_d_word" "_law_d_word" (defArgs st__law_d_word) (defBody st__law_d_word) (defScope st__law_d_word) .none kV__law_d_word dc__law_d_word pm__law_d_word an__law_d_word cd__law_d_word ct__law_d_word), sl__law_d_word⟩) (c__law_d_word : PySem.W.codeIn K cd__law_d_word "_law_d_word" = true) (k__law_d_word : PySem.W.keepIn K (.ref f__law_d_word) = true)
    (a__law_d_atom : PySem.W.nsIn K mainGlobals "_law_d_atom" = some (some (.ref f__law_d_atom))) (l__law_d_atom : K.lookup f__law_d_atom = some ⟨oc__law_d_atom, od__law_d_atom, .func (PySem.W.fnOf "_law_d_atom" "_law_d_atom" (defArgs st__law_d_atom) (defBody st__law_d_atom) (defScope st__law_d_atom) .none kV__law_d_atom dc__law_d_atom pm__law_d_atom an__law_d_atom cd__law_d_atom ct__law_d_atom), sl__law_d_atom⟩) (c__law_d_atom : PySem.W.codeIn K cd__law_d_atom "_law_d_atom" = true) (k__law_d_atom : PySem.W.keepIn K (.ref f__law_d_atom) = true)
    (a__law_d_parts : PySem.W.nsIn K mainGlobals "_law_d_parts" = some (some (.ref f__law_d_parts))) (l__law_d_parts : K.lookup f__law_d_parts = some ⟨oc__law_d_parts, od__law_d_parts, .func (PySem.W.fnOf "_law_d_parts" "_law_d_parts" (defArgs st__law_d_parts) (defBody st__law_d_parts) (defScope st__law_d_parts) .none kV__law_d_parts dc__law_d_parts pm__law_d_parts an__law_d_parts cd__law_d_parts ct__law_d_parts), sl__law_d_parts⟩) (c__law_d_parts : PySem.W.codeIn K cd__law_d_parts "_law_d_parts" = true) (k__law_d_parts : PySem.W.keepIn K (.ref f__law_d_parts) = true)
    (a__law_d_variables : PySem.W.nsIn K mainGlobals "_law_d_variables" = some (some (.ref f__law_d_variables))) (l__law_d_variables : K.lookup f__law_d_variables = some ⟨oc__law_d_variables, od__law_d_variables, .func (PySem.W.fnOf "_law_d_variables" "_law_d_variables" (defArgs st__law_d_variables) (defBody st__law_d_variables) (defScope st__law_d_variables) .none kV__law_d_variables dc__law_d_variables pm__law_d_variables an__law_d_variables cd__law_d_variables ct__law_d_variables), sl__law_d_variables⟩) (c__law_d_variables : PySem.W.codeIn K cd__law_d_variables "_law_d_variables" = true) (k__law_d_variables : PySem.W.keepIn K (.ref f__law_d_variables) = true)
    (a__law_d_odd_words : PySem.W.nsIn K mainGlobals "_law_d_odd_words" = some (some (.ref f__law_d_odd_words))) (l__law_d_odd_words : K.lookup f__law_d_odd_words = some ⟨oc__law_d_odd_words, od__law_d_odd_words, .func (PySem.W.fnOf "_law_d_odd_words" "_law_d_odd_words" (defArgs st__law_d_odd_words) (defBody st__law_d_odd_words) (defScope st__law_d_odd_words) .none kV__law_d_odd_words dc__law_d_odd_words pm__law_d_odd_words an__law_d_odd_words cd__law_d_odd_words ct__law_d_odd_words), sl__law_d_odd_words⟩) (c__law_d_odd_words : PySem.W.codeIn K cd__law_d_odd_words "_law_d_odd_words" = true) (k__law_d_odd_words : PySem.W.keepIn K (.ref f__law_d_odd_words) = true)
    (a__law_d_loose : PySem.W.nsIn K mainGlobals "_law_d_loose" = some (some (.ref f__law_d_loose))) (l__law_d_loose : K.lookup f__law_d_loose = some ⟨oc__law_d_loose, od__law_d_loose, .func (PySem.W.fnOf "_law_d_loose" "_law_d_loose" (defArgs st__law_d_loose) (defBody st__law_d_loose) (defScope st__law_d_loose) .none kV__law_d_loose dc__law_d_loose pm__law_d_loose an__law_d_loose cd__law_d_loose ct__law_d_loose), sl__law_d_loose⟩) (c__law_d_loose : PySem.W.codeIn K cd__law_d_loose "_law_d_loose" = true) (k__law_d_loose : PySem.W.keepIn K (.ref f__law_d_loose) = true)
    (a__law_d_met : PySem.W.nsIn K mainGlobals "_law_d_met" = some (some (.ref f__law_d_met))) (l__law_d_met : K.lookup f__law_d_met = some ⟨oc__law_d_met, od__law_d_met, .func (PySem.W.fnOf "_law_d_met" "_law_d_met" (defArgs st__law_d_met) (defBody st__law_d_met) (defScope st__law_d_met) .none kV__law_d_met dc__law_d_met pm__law_d_met an__law_d_met cd__law_d_met ct__law_d_met), sl__law_d_met⟩) (c__law_d_met : PySem.W.codeIn K cd__law_d_met "_law_d_met" = true) (k__law_d_met : PySem.W.keepIn K (.ref f__law_d_met) = true)
    (a__law_start : PySem.W.nsIn K mainGlobals "_law_start" = some (some (.ref f__law_start))) (l__law_start : K.lookup f__law_start = some ⟨oc__law_start, od__law_start, .func (PySem.W.fnOf "_law_start" "_law_start" (defArgs st__law_start) (defBody st__law_start) (defScope st__law_start) .none kV__law_start dc__law_start pm__law_start an__law_start cd__law_start ct__law_start), sl__law_start⟩) (c__law_start : PySem.W.codeIn K cd__law_start "_law_start" = true) (k__law_start : PySem.W.keepIn K (.ref f__law_start) = true)
    (a__law_draw : PySem.W.nsIn K mainGlobals "_law_draw" = some (some (.ref f__law_draw))) (l__law_draw : K.lookup f__law_draw = some ⟨oc__law_draw, od__law_draw, .func (PySem.W.fnOf "_law_draw" "_law_draw" (defArgs st__law_draw) (defBody st__law_draw) (defScope st__law_draw) .none kV__law_draw dc__law_draw pm__law_draw an__law_draw cd__law_draw ct__law_draw), sl__law_draw⟩) (c__law_draw : PySem.W.codeIn K cd__law_draw "_law_draw" = true) (k__law_draw : PySem.W.keepIn K (.ref f__law_draw) = true)
    (a__law_pick : PySem.W.nsIn K mainGlobals "_law_pick" = some (some (.ref f__law_pick))) (l__law_pick : K.lookup f__law_pick = some ⟨oc__law_pick, od__law_pick, .func (PySem.W.fnOf "_law_pick" "_law_pick" (defArgs st__law_pick) (defBody st__law_pick) (defScope st__law_pick) .none kV__law_pick dc__law_pick pm__law_pick an__law_pick cd__law_pick ct__law_pick), sl__law_pick⟩) (c__law_pick : PySem.W.codeIn K cd__law_pick "_law_pick" = true) (k__law_pick : PySem.W.keepIn K (.ref f__law_pick) = true)
    (a__law_same : PySem.W.nsIn K mainGlobals "_law_same" = some (some (.ref f__law_same))) (l__law_same : K.lookup f__law_same = some ⟨oc__law_same, od__law_same, .func (PySem.W.fnOf "_law_same" "_law_same" (defArgs st__law_same) (defBody st__law_same) (defScope st__law_same) .none kV__law_same dc__law_same pm__law_same an__law_same cd__law_same ct__law_same), sl__law_same⟩) (c__law_same : PySem.W.codeIn K cd__law_same "_law_same" = true) (k__law_same : PySem.W.keepIn K (.ref f__law_same) = true)
    (a__law_each_once : PySem.W.nsIn K mainGlobals "_law_each_once" = some (some (.ref f__law_each_once))) (l__law_each_once : K.lookup f__law_each_once = some ⟨oc__law_each_once, od__law_each_once, .func (PySem.W.fnOf "_law_each_once" "_law_each_once" (defArgs st__law_each_once) (defBody st__law_each_once) (defScope st__law_each_once) .none kV__law_each_once dc__law_each_once pm__law_each_once an__law_each_once cd__law_each_once ct__law_each_once), sl__law_each_once⟩) (c__law_each_once : PySem.W.codeIn K cd__law_each_once "_law_each_once" = true) (k__law_each_once : PySem.W.keepIn K (.ref f__law_each_once) = true)
    (a__law_depth : PySem.W.nsIn K mainGlobals "_law_depth" = some (some (.ref f__law_depth))) (l__law_depth : K.lookup f__law_depth = some ⟨oc__law_depth, od__law_depth, .func (PySem.W.fnOf "_law_depth" "_law_depth" (defArgs st__law_depth) (defBody st__law_depth) (defScope st__law_depth) .none kV__law_depth dc__law_depth pm__law_depth an__law_depth cd__law_depth ct__law_depth), sl__law_depth⟩) (c__law_depth : PySem.W.codeIn K cd__law_depth "_law_depth" = true) (k__law_depth : PySem.W.keepIn K (.ref f__law_depth) = true)
    (a__law_exchanged : PySem.W.nsIn K mainGlobals "_law_exchanged" = some (some (.ref f__law_exchanged))) (l__law_exchanged : K.lookup f__law_exchanged = some ⟨oc__law_exchanged, od__law_exchanged, .func (PySem.W.fnOf "_law_exchanged" "_law_exchanged" (defArgs st__law_exchanged) (defBody st__law_exchanged) (defScope st__law_exchanged) .none kV__law_exchanged dc__law_exchanged pm__law_exchanged an__law_exchanged cd__law_exchanged ct__law_exchanged), sl__law_exchanged⟩) (c__law_exchanged : PySem.W.codeIn K cd__law_exchanged "_law_exchanged" = true) (k__law_exchanged : PySem.W.keepIn K (.ref f__law_exchanged) = true)
    (a__law_word_right : PySem.W.nsIn K mainGlobals "_law_word_right" = some (some (.ref f__law_word_right))) (l__law_word_right : K.lookup f__law_word_right = some ⟨oc__law_word_right, od__law_word_right, .func (PySem.W.fnOf "_law_word_right" "_law_word_right" (defArgs st__law_word_right) (defBody st__law_word_right) (defScope st__law_word_right) .none kV__law_word_right dc__law_word_right pm__law_word_right an__law_word_right (.ref cR) ct__law_word_right), sl__law_word_right⟩) (c__law_word_right : PySem.W.codeIn K (.ref cR) "_law_word_right" = true) (k__law_word_right : PySem.W.keepIn K (.ref f__law_word_right) = true)
    (nt__law_word_right : (K.lookup (tabOf K cR)).isNone = true) (mt__law_word_right : ts.elem (tabOf K cR) = true) (hc__law_word_right : PySem.W.codeHdIn K cR (tabOf K cR) = true)
    (a_law : PySem.W.nsIn K mainGlobals "law" = some (some (.ref f_law))) (l_law : K.lookup f_law = some ⟨oc_law, od_law, .func (PySem.W.fnOf "law" "law" (defArgs st_law) (defBody st_law) (defScope st_law) .none kV_law dc_law pm_law an_law (.ref cL) ct_law), sl_law⟩) (c_law : PySem.W.codeIn K (.ref cL) "law" = true) (k_law : PySem.W.keepIn K (.ref f_law) = true)
    (nt_law : (K.lookup (tabOf K cL)).isNone = true) (mt_law : ts.elem (tabOf K cL) = true) (hc_law : PySem.W.codeHdIn K cL (tabOf K cL) = true)
    (hne : (tabOf K cR == tabOf K cL) = false)
    (g0 : PySem.W.nsIn K mainGlobals "BadWord" = some (some (.ref C0))) (x0 : xfB K C0 = true) (n0 : PySem.W.findIn K (.ref C0) "thing" = some none)
    (g1 : PySem.W.nsIn K mainGlobals "BadPlace" = some (some (.ref C1))) (x1 : xfB K C1 = true) (n1 : PySem.W.findIn K (.ref C1) "thing" = some none)
    (g2 : PySem.W.nsIn K mainGlobals "BadSubstitution" = some (some (.ref C2))) (x2 : xfB K C2 = true) (n2 : PySem.W.findIn K (.ref C2) "thing" = some none)
    (g3 : PySem.W.nsIn K mainGlobals "BadPairs" = some (some (.ref C3))) (x3 : xfB K C3 = true) (n3 : PySem.W.findIn K (.ref C3) "index" = some none)
    (g4 : PySem.W.nsIn K mainGlobals "BadClause" = some (some (.ref C4))) (x4 : xfB K C4 = true) (n4 : PySem.W.findIn K (.ref C4) "thing" = some none)
    (g5 : PySem.W.nsIn K mainGlobals "BadClauses" = some (some (.ref C5))) (x5 : xfB K C5 = true) (n5 : PySem.W.findIn K (.ref C5) "index" = some none)
    (g6 : PySem.W.nsIn K mainGlobals "BadTaken" = some (some (.ref C6))) (x6 : xfB K C6 = true) (n6 : PySem.W.findIn K (.ref C6) "index" = some none)
    (g7 : PySem.W.nsIn K mainGlobals "BadTruth" = some (some (.ref C7))) (x7 : xfB K C7 = true) (n7 : PySem.W.findIn K (.ref C7) "thing" = some none)
    (g8 : PySem.W.nsIn K mainGlobals "BadRows" = some (some (.ref C8))) (x8 : xfB K C8 = true) (n8 : PySem.W.findIn K (.ref C8) "index" = some none)
    (g9 : PySem.W.nsIn K mainGlobals "BadOrder" = some (some (.ref C9))) (x9 : xfB K C9 = true) (n9 : PySem.W.findIn K (.ref C9) "thing" = some none)
    (g10 : PySem.W.nsIn K mainGlobals "NotOrdered" = some (some (.ref C10))) (x10 : xfB K C10 = true) (n10 : PySem.W.findIn K (.ref C10) "name" = some none)
    (g11 : PySem.W.nsIn K mainGlobals "BadNumber" = some (some (.ref C11))) (x11 : xfB K C11 = true) (n11 : PySem.W.findIn K (.ref C11) "thing" = some none)
    (g12 : PySem.W.nsIn K mainGlobals "BadArities" = some (some (.ref C12))) (x12 : xfB K C12 = true) (n12 : PySem.W.findIn K (.ref C12) "index" = some none)
    (g13 : PySem.W.nsIn K mainGlobals "NotGround" = some (some (.ref C13))) (x13 : xfB K C13 = true) (n13 : PySem.W.findIn K (.ref C13) "thing" = some none)
    (m00 : PySem.W.exmOne K (.ref C0) (.ref C0) = some true) (m10 : PySem.W.exmOne K (.ref C1) (.ref C0) = some false) (m11 : PySem.W.exmOne K (.ref C1) (.ref C1) = some true)
    (o0 : K.lookup C0 = some (excClassObj nm_e0 q_e0 C0 N_e0 bs_e0 [.ref S_e0, .type "ValueError", .type "Exception", .type "BaseException", .type "object"] true sn_e0 sub_e0 ab_e0 col_e0 dd_e0 ka_e0 kb_e0 kc_e0 kd_e0 ke_e0 "ValueError.__new__")) (sa0 : PySem.W.findIn K (.ref C0) "__setattr__" = some (some (.builtin "object.__setattr__"))) (ex0 : PySem.W.subIn K (.ref C0) (.type "BaseException") = some true) (ty0 : PySem.W.typeIn K (.ref C0) = some (.type "type")) (kc0 : PySem.W.keepIn K (.ref C0) = true)
    (ai0 : PySem.W.findIn K (.ref C0) "__init__" = some (some (.ref fi0))) (li0 : K.lookup fi0 = some ⟨oc_fi0, od_fi0, .func (PySem.W.fnOf "__init__" "BadWord.__init__" (defArgs st_BadWord___init__) (defBody st_BadWord___init__) (defScope st_BadWord___init__) .none kV_fi0 dc_fi0 pm_fi0 an_fi0 cd_fi0 ct_fi0), sl_fi0⟩) (ci0 : PySem.W.codeIn K cd_fi0 "BadWord.__init__" = true) (ki0 : PySem.W.keepIn K (.ref fi0) = true) (ti0 : PySem.W.typeIn K (.ref fi0) = some (.type "function"))
    (o1 : K.lookup C1 = some (excClassObj nm_e1 q_e1 C1 N_e1 bs_e1 [.ref S_e1, .type "ValueError", .type "Exception", .type "BaseException", .type "object"] true sn_e1 sub_e1 ab_e1 col_e1 dd_e1 ka_e1 kb_e1 kc_e1 kd_e1 ke_e1 "ValueError.__new__")) (sa1 : PySem.W.findIn K (.ref C1) "__setattr__" = some (some (.builtin "object.__setattr__"))) (ex1 : PySem.W.subIn K (.ref C1) (.type "BaseException") = some true) (ty1 : PySem.W.typeIn K (.ref C1) = some (.type "type")) (kc1 : PySem.W.keepIn K (.ref C1) = true)
    (ai1 : PySem.W.findIn K (.ref C1) "__init__" = some (some (.ref fi1))) (li1 : K.lookup fi1 = some ⟨oc_fi1, od_fi1, .func (PySem.W.fnOf "__init__" "BadPlace.__init__" (defArgs st_BadPlace___init__) (defBody st_BadPlace___init__) (defScope st_BadPlace___init__) .none kV_fi1 dc_fi1 pm_fi1 an_fi1 cd_fi1 ct_fi1), sl_fi1⟩) (ci1 : PySem.W.codeIn K cd_fi1 "BadPlace.__init__" = true) (ki1 : PySem.W.keepIn K (.ref fi1) = true) (ti1 : PySem.W.typeIn K (.ref fi1) = some (.type "function"))
    (aS : PySem.W.nsIn K mainGlobals "SMALL" = some (some (.str sSMALL tS))) (aF : PySem.W.nsIn K mainGlobals "FIGURES" = some (some (.str sFIGURES tF))) (aK : PySem.W.nsIn K mainGlobals "CAPITALS" = some (some (.str sCAPITALS tK)))
    (aWd : PySem.W.nsIn K mainGlobals "WORDS" = some (some (.ref aW))) (lW : K.lookup aW = some ⟨.type "tuple", odW, .seq itW nW, slW⟩) (hW : itW.size ≤ sizeLine) (eW : Vals (kwords.map V.str) itW.toList)
    (z_isinstance : PySem.W.nsIn K mainGlobals "isinstance" = some none)
    (z_str : PySem.W.nsIn K mainGlobals "str" = some none)
    (z_list : PySem.W.nsIn K mainGlobals "list" = some none)
    (z_tuple : PySem.W.nsIn K mainGlobals "tuple" = some none)
    (z_int : PySem.W.nsIn K mainGlobals "int" = some none)
    (z_bool : PySem.W.nsIn K mainGlobals "bool" = some none)
    (z_dict : PySem.W.nsIn K mainGlobals "dict" = some none)
    (z_len : PySem.W.nsIn K mainGlobals "len" = some none)
    (z_all : PySem.W.nsIn K mainGlobals "all" = some none)
    (z_range : PySem.W.nsIn K mainGlobals "range" = some none)
    (z_enumerate : PySem.W.nsIn K mainGlobals "enumerate" = some none)
    (z_zip : PySem.W.nsIn K mainGlobals "zip" = some none)
    (z_max : PySem.W.nsIn K mainGlobals "max" = some none)
    (z_min : PySem.W.nsIn K mainGlobals "min" = some none)
    (z_repr : PySem.W.nsIn K mainGlobals "repr" = some none) :
    LawAtG l w K CX0 21 63 "script" mg fa h := by
  have e := hfa.symm.trans (PySem.W.mg_of X G a_law)
  cases e
  have GG : Glob K mg := ⟨⟨_, PySem.W.mg_of X G aS, _, rfl⟩, ⟨_, PySem.W.mg_of X G aF, _, rfl⟩, ⟨_, PySem.W.mg_of X G aK, _, rfl⟩, ⟨aW, _, PySem.W.mg_of X G aWd, rfl, fun H => .inr ⟨_, _, _, lW, rfl, rfl, hW, eW⟩⟩, PySem.W.mg_none_of X G z_isinstance, PySem.W.mg_none_of X G z_str, PySem.W.mg_none_of X G z_list, PySem.W.mg_none_of X G z_tuple, PySem.W.mg_none_of X G z_int, PySem.W.mg_none_of X G z_bool, PySem.W.mg_none_of X G z_dict, PySem.W.mg_none_of X G z_len, PySem.W.mg_none_of X G z_all, PySem.W.mg_none_of X G z_range, PySem.W.mg_none_of X G z_enumerate, PySem.W.mg_none_of X G z_zip, PySem.W.mg_none_of X G z_max, PySem.W.mg_none_of X G z_min, PySem.W.mg_none_of X G z_repr⟩
  have F_is_list := fun_mk (st := st_is_list) l_is_list c_is_list k_is_list
  have b_is_list := F_is_list.binds (ps := ["thing"]) fun _ _ _ _ _ _ us hl => match us, hl with | [_], _ => rfl
  have F_is_integer := fun_mk (st := st_is_integer) l_is_integer c_is_integer k_is_integer
  have b_is_integer := F_is_integer.binds (ps := ["thing"]) fun _ _ _ _ _ _ us hl => match us, hl with | [_], _ => rfl
  have F_is_number := fun_mk (st := st_is_number) l_is_number c_is_number k_is_number
  have b_is_number := F_is_number.binds (ps := ["thing"]) fun _ _ _ _ _ _ us hl => match us, hl with | [_], _ => rfl
  have F_is_name := fun_mk (st := st_is_name) l_is_name c_is_name k_is_name
  have b_is_name := F_is_name.binds (ps := ["thing"]) fun _ _ _ _ _ _ us hl => match us, hl with | [_], _ => rfl
  have F_is_variable := fun_mk (st := st_is_variable) l_is_variable c_is_variable k_is_variable
  have b_is_variable := F_is_variable.binds (ps := ["thing"]) fun _ _ _ _ _ _ us hl => match us, hl with | [_], _ => rfl
  have F_as_word := fun_mk (st := st_as_word) l_as_word c_as_word k_as_word
  have b_as_word := F_as_word.binds (ps := ["thing"]) fun _ _ _ _ _ _ us hl => match us, hl with | [_], _ => rfl
  have F_as_atom := fun_mk (st := st_as_atom) l_as_atom c_as_atom k_as_atom
  have b_as_atom := F_as_atom.binds (ps := ["thing"]) fun _ _ _ _ _ _ us hl => match us, hl with | [_], _ => rfl
  have F_checked_word := fun_mk (st := st_checked_word) l_checked_word c_checked_word k_checked_word
  have b_checked_word := F_checked_word.binds (ps := ["thing"]) fun _ _ _ _ _ _ us hl => match us, hl with | [_], _ => rfl
  have F_places_in := fun_mk (st := st_places_in) l_places_in c_places_in k_places_in
  have b_places_in := F_places_in.binds (ps := ["word", "place"]) fun _ _ _ _ _ _ us hl => match us, hl with | [_, _], _ => rfl
  have F_at_in := fun_mk (st := st_at_in) l_at_in c_at_in k_at_in
  have b_at_in := F_at_in.binds (ps := ["word", "place"]) fun _ _ _ _ _ _ us hl => match us, hl with | [_, _], _ => rfl
  have F_with_part := fun_mk (st := st_with_part) l_with_part c_with_part k_with_part
  have b_with_part := F_with_part.binds (ps := ["word", "place", "part"]) fun _ _ _ _ _ _ us hl => match us, hl with | [_, _, _], _ => rfl
  have F_met_in := fun_mk (st := st_met_in) l_met_in c_met_in k_met_in
  have b_met_in := F_met_in.binds (ps := ["word", "known"]) fun _ _ _ _ _ _ us hl => match us, hl with | [_, _], _ => rfl
  have F_depth_in := fun_mk (st := st_depth_in) l_depth_in c_depth_in k_depth_in
  have b_depth_in := F_depth_in.binds (ps := ["word"]) fun _ _ _ _ _ _ us hl => match us, hl with | [_], _ => rfl
  have F_places := fun_mk (st := st_places) l_places c_places k_places
  have b_places := F_places.binds (ps := ["word"]) fun _ _ _ _ _ _ us hl => match us, hl with | [_], _ => rfl
  have F_checked_part := fun_mk (st := st_checked_part) l_checked_part c_checked_part k_checked_part
  have b_checked_part := F_checked_part.binds (ps := ["word", "place"]) fun _ _ _ _ _ _ us hl => match us, hl with | [_, _], _ => rfl
  have F_word_at := fun_mk (st := st_word_at) l_word_at c_word_at k_word_at
  have b_word_at := F_word_at.binds (ps := ["word", "place"]) fun _ _ _ _ _ _ us hl => match us, hl with | [_, _], _ => rfl
  have F_word_put := fun_mk (st := st_word_put) l_word_put c_word_put k_word_put
  have b_word_put := F_word_put.binds (ps := ["word", "place", "part"]) fun _ _ _ _ _ _ us hl => match us, hl with | [_, _, _], _ => rfl
  have F_depth := fun_mk (st := st_depth) l_depth c_depth k_depth
  have b_depth := F_depth.binds (ps := ["word"]) fun _ _ _ _ _ _ us hl => match us, hl with | [_], _ => rfl
  have F_variables_of := fun_mk (st := st_variables_of) l_variables_of c_variables_of k_variables_of
  have b_variables_of := F_variables_of.binds (ps := ["word"]) fun _ _ _ _ _ _ us hl => match us, hl with | [_], _ => rfl
  have F__law_d_word := fun_mk (st := st__law_d_word) l__law_d_word c__law_d_word k__law_d_word
  have b__law_d_word := F__law_d_word.binds (ps := ["stream", "level", "variables"]) fun _ _ _ _ _ _ us hl => match us, hl with | [_, _, _], _ => rfl
  have F__law_d_atom := fun_mk (st := st__law_d_atom) l__law_d_atom c__law_d_atom k__law_d_atom
  have b__law_d_atom := F__law_d_atom.binds (ps := ["stream", "level", "variables"]) fun _ _ _ _ _ _ us hl => match us, hl with | [_, _, _], _ => rfl
  have F__law_d_parts := fun_mk (st := st__law_d_parts) l__law_d_parts c__law_d_parts k__law_d_parts
  have b__law_d_parts := F__law_d_parts.binds (ps := ["word"]) fun _ _ _ _ _ _ us hl => match us, hl with | [_], _ => rfl
  have F__law_d_variables := fun_mk (st := st__law_d_variables) l__law_d_variables c__law_d_variables k__law_d_variables
  have b__law_d_variables := F__law_d_variables.binds (ps := ["words"]) fun _ _ _ _ _ _ us hl => match us, hl with | [_], _ => rfl
  have F__law_d_odd_words := fun_mk (st := st__law_d_odd_words) l__law_d_odd_words c__law_d_odd_words k__law_d_odd_words
  have b__law_d_odd_words := F__law_d_odd_words.binds (ps := []) fun _ _ _ _ _ _ us hl => match us, hl with | [], _ => rfl
  have F__law_d_loose := fun_mk (st := st__law_d_loose) l__law_d_loose c__law_d_loose k__law_d_loose
  have b__law_d_loose := F__law_d_loose.binds (ps := ["stream", "word"]) fun _ _ _ _ _ _ us hl => match us, hl with | [_, _], _ => rfl
  have F__law_d_met := fun_mk (st := st__law_d_met) l__law_d_met c__law_d_met k__law_d_met
  have b__law_d_met := F__law_d_met.binds (ps := ["ask"]) fun _ _ _ _ _ _ us hl => match us, hl with | [_], _ => rfl
  have F__law_start := fun_mk (st := st__law_start) l__law_start c__law_start k__law_start
  have b__law_start := F__law_start.binds (ps := ["script"]) fun _ _ _ _ _ _ us hl => match us, hl with | [_], _ => rfl
  have F__law_draw := fun_mk (st := st__law_draw) l__law_draw c__law_draw k__law_draw
  have b__law_draw := F__law_draw.binds (ps := ["stream", "many"]) fun _ _ _ _ _ _ us hl => match us, hl with | [_, _], _ => rfl
  have F__law_pick := fun_mk (st := st__law_pick) l__law_pick c__law_pick k__law_pick
  have b__law_pick := F__law_pick.binds (ps := ["stream", "some"]) fun _ _ _ _ _ _ us hl => match us, hl with | [_, _], _ => rfl
  have F__law_same := fun_mk (st := st__law_same) l__law_same c__law_same k__law_same
  have b__law_same := F__law_same.binds (ps := ["found", "due"]) fun _ _ _ _ _ _ us hl => match us, hl with | [_, _], _ => rfl
  have F__law_each_once := fun_mk (st := st__law_each_once) l__law_each_once c__law_each_once k__law_each_once
  have b__law_each_once := F__law_each_once.binds (ps := ["things"]) fun _ _ _ _ _ _ us hl => match us, hl with | [_], _ => rfl
  have F__law_depth := fun_mk (st := st__law_depth) l__law_depth c__law_depth k__law_depth
  have b__law_depth := F__law_depth.binds (ps := ["word"]) fun _ _ _ _ _ _ us hl => match us, hl with | [_], _ => rfl
  have F__law_exchanged := fun_mk (st := st__law_exchanged) l__law_exchanged c__law_exchanged k__law_exchanged
  have b__law_exchanged := F__law_exchanged.binds (ps := ["word", "place", "part"]) fun _ _ _ _ _ _ us hl => match us, hl with | [_, _, _], _ => rfl
  have DD : Fns K mg := ⟨⟨_, _, F_is_list, b_is_list, PySem.W.mg_of X G a_is_list⟩, ⟨_, _, F_is_integer, b_is_integer, PySem.W.mg_of X G a_is_integer⟩, ⟨_, _, F_is_number, b_is_number, PySem.W.mg_of X G a_is_number⟩, ⟨_, _, F_is_name, b_is_name, PySem.W.mg_of X G a_is_name⟩, ⟨_, _, F_is_variable, b_is_variable, PySem.W.mg_of X G a_is_variable⟩, ⟨_, _, F_as_word, b_as_word, PySem.W.mg_of X G a_as_word⟩, ⟨_, _, F_as_atom, b_as_atom, PySem.W.mg_of X G a_as_atom⟩, ⟨_, _, F_checked_word, b_checked_word, PySem.W.mg_of X G a_checked_word⟩, ⟨_, _, F_places_in, b_places_in, PySem.W.mg_of X G a_places_in⟩, ⟨_, _, F_at_in, b_at_in, PySem.W.mg_of X G a_at_in⟩, ⟨_, _, F_with_part, b_with_part, PySem.W.mg_of X G a_with_part⟩, ⟨_, _, F_met_in, b_met_in, PySem.W.mg_of X G a_met_in⟩, ⟨_, _, F_depth_in, b_depth_in, PySem.W.mg_of X G a_depth_in⟩, ⟨_, _, F_places, b_places, PySem.W.mg_of X G a_places⟩, ⟨_, _, F_checked_part, b_checked_part, PySem.W.mg_of X G a_checked_part⟩, ⟨_, _, F_word_at, b_word_at, PySem.W.mg_of X G a_word_at⟩, ⟨_, _, F_word_put, b_word_put, PySem.W.mg_of X G a_word_put⟩, ⟨_, _, F_depth, b_depth, PySem.W.mg_of X G a_depth⟩, ⟨_, _, F_variables_of, b_variables_of, PySem.W.mg_of X G a_variables_of⟩, ⟨_, _, F__law_d_word, b__law_d_word, PySem.W.mg_of X G a__law_d_word⟩, ⟨_, _, F__law_d_atom, b__law_d_atom, PySem.W.mg_of X G a__law_d_atom⟩, ⟨_, _, F__law_d_parts, b__law_d_parts, PySem.W.mg_of X G a__law_d_parts⟩, ⟨_, _, F__law_d_variables, b__law_d_variables, PySem.W.mg_of X G a__law_d_variables⟩, ⟨_, _, F__law_d_odd_words, b__law_d_odd_words, PySem.W.mg_of X G a__law_d_odd_words⟩, ⟨_, _, F__law_d_loose, b__law_d_loose, PySem.W.mg_of X G a__law_d_loose⟩, ⟨_, _, F__law_d_met, b__law_d_met, PySem.W.mg_of X G a__law_d_met⟩, ⟨_, _, F__law_start, b__law_start, PySem.W.mg_of X G a__law_start⟩, ⟨_, _, F__law_draw, b__law_draw, PySem.W.mg_of X G a__law_draw⟩, ⟨_, _, F__law_pick, b__law_pick, PySem.W.mg_of X G a__law_pick⟩, ⟨_, _, F__law_same, b__law_same, PySem.W.mg_of X G a__law_same⟩, ⟨_, _, F__law_each_once, b__law_each_once, PySem.W.mg_of X G a__law_each_once⟩, ⟨_, _, F__law_depth, b__law_depth, PySem.W.mg_of X G a__law_depth⟩, ⟨_, _, F__law_exchanged, b__law_exchanged, PySem.W.mg_of X G a__law_exchanged⟩⟩
  have F_R := fun_mk (st := st__law_word_right) l__law_word_right c__law_word_right k__law_word_right
  have b_R := F_R.binds (ps := ["stream", "word", "part"]) fun _ _ _ _ _ _ us hl => match us, hl with | [_, _, _], _ => rfl
  have DR : DefC K mg "_law_word_right" st__law_word_right ["stream", "word", "part"] cR := ⟨_, _, ⟨_, _, _, _, _, _, _, _, rfl, l__law_word_right, c__law_word_right⟩, k__law_word_right, b_R, PySem.W.mg_of X G a__law_word_right⟩
  have ER : Errs K mg (fun i => [C0, C1, C2, C3, C4, C5, C6, C7, C8, C9, C10, C11, C12, C13].getD i 0) := ⟨⟨PySem.W.mg_of X G g0, xfB_ok x0, n0⟩, ⟨PySem.W.mg_of X G g1, xfB_ok x1, n1⟩, ⟨PySem.W.mg_of X G g2, xfB_ok x2, n2⟩, ⟨PySem.W.mg_of X G g3, xfB_ok x3, n3⟩, ⟨PySem.W.mg_of X G g4, xfB_ok x4, n4⟩, ⟨PySem.W.mg_of X G g5, xfB_ok x5, n5⟩, ⟨PySem.W.mg_of X G g6, xfB_ok x6, n6⟩, ⟨PySem.W.mg_of X G g7, xfB_ok x7, n7⟩, ⟨PySem.W.mg_of X G g8, xfB_ok x8, n8⟩, ⟨PySem.W.mg_of X G g9, xfB_ok x9, n9⟩, ⟨PySem.W.mg_of X G g10, xfB_ok x10, n10⟩, ⟨PySem.W.mg_of X G g11, xfB_ok x11, n11⟩, ⟨PySem.W.mg_of X G g12, xfB_ok x12, n12⟩, ⟨PySem.W.mg_of X G g13, xfB_ok x13, n13⟩, m00, m10, m11⟩
  have EW : Err K mg "BadWord" "thing" st_BadWord___init__ C0 := ⟨PySem.W.mg_of X G g0, ⟨⟨_, _, _, _, _, _, _, _, _, _, _, _, _, _, _, o0, show PySem.HandSPX.refsVE PySem.HandSPX.veTail = true by decide +kernel⟩, sa0, ex0, ty0, kc0⟩, xfB_ok x0, n0, ⟨_, _, fun_mk (st := st_BadWord___init__) li0 ci0 ki0, (fun_mk (st := st_BadWord___init__) li0 ci0 ki0).binds (ps := ["self", "thing"]) fun _ _ _ _ _ _ us hl => match us, hl with | [_, _], _ => rfl, ai0, ti0⟩, m00⟩
  have EP : Err K mg "BadPlace" "thing" st_BadPlace___init__ C1 := ⟨PySem.W.mg_of X G g1, ⟨⟨_, _, _, _, _, _, _, _, _, _, _, _, _, _, _, o1, show PySem.HandSPX.refsVE PySem.HandSPX.veTail = true by decide +kernel⟩, sa1, ex1, ty1, kc1⟩, xfB_ok x1, n1, ⟨_, _, fun_mk (st := st_BadPlace___init__) li1 ci1 ki1, (fun_mk (st := st_BadPlace___init__) li1 ci1 ki1).binds (ps := ["self", "thing"]) fun _ _ _ _ _ _ us hl => match us, hl with | [_, _], _ => rfl, ai1, ti1⟩, m11⟩
  have nt__law_word_right := Option.isNone_iff_eq_none.mp nt__law_word_right
  have nt_law := Option.isNone_iff_eq_none.mp nt_law
  have mt__law_word_right := List.mem_of_elem_eq_true mt__law_word_right
  have mt_law := List.mem_of_elem_eq_true mt_law
  have hne : tabOf K cR ≠ tabOf K cL := fun q => by rw [q] at hne; simp at hne
  generalize tabOf K cR = pR at nt__law_word_right mt__law_word_right hc__law_word_right hne
  generalize tabOf K cL = pL at nt_law mt_law hc_law hne
  have hR1 := PySem.W.codeHd_of_K X hc__law_word_right
  have hL1 := PySem.W.codeHd_of_K X hc_law
  have hR2 := yT _ mt__law_word_right
  have hL2 := yT _ mt_law
  refine ⟨PySem.W.fnOf "law" "law" (defArgs st_law) (defBody st_law) (defScope st_law) .none kV_law dc_law pm_law an_law (.ref cL) ct_law, [(cR, pR), (cL, pL)], spLaw K [(pR, lamQ "_law_word_right"), (pL, lamQ "law")], fun p hp => ?_, fun p hp => ?_, fun p hp => ?_, fun s v => .of_eq rfl, fun H a ns _ _ hH hS => ⟨a, ns, rfl, hS, fun p hp => ?_, fun _ => rfl⟩, fun base _ _ TB => ?_⟩
  · rcases List.mem_cons.mp hp with rfl | hp
    · exact hR2
    · rw [List.mem_singleton] at hp; subst hp; exact hL2
  · rcases List.mem_cons.mp hp with rfl | hp
    · exact nt__law_word_right
    · rw [List.mem_singleton] at hp; subst hp; exact nt_law
  · rcases List.mem_cons.mp hp with rfl | hp
    · exact hR1
    · rw [List.mem_singleton] at hp; subst hp; exact hL1
  · rcases List.mem_cons.mp hp with rfl | hp
    · exact TabS.nil (hH (cR, pR) List.mem_cons_self)
    · rw [List.mem_singleton] at hp; subst hp; exact TabS.nil (hH (cL, pL) (List.mem_cons_of_mem _ List.mem_cons_self))
  · exact chain (P := l.prog) (w := w) (base := base) GG DD ER EW EP hne DR (TB (cR, pR) List.mem_cons_self) (TB (cL, pL) (List.mem_cons_of_mem _ List.mem_cons_self)) ⟨_, _, _, _, _, _, _, _, rfl, l_law, c_law⟩
end WD

-- text: End1
set_option Elab.async false
open PySem PySem.W PyProof.Rows
set_option maxRecDepth 100000 in
set_option maxHeartbeats 0 in
set_option pp.maxSteps 300 in
theorem PySem.Challenge.cw_eithershown_k23_whole_places_holds : PySem.Challenge.rw_eithershown_k23_whole_places.Holds := by
  w_on; o_law; k_head; (case hw => w_witness2)
  k_fill
  refine GL.walk_ofG (l := PySem.Challenge.rw_eithershown_k23_whole_places) (n := 63) (k := 21) (x := "script") (CX := fun _ => L2.CX0) rfl (by decide) rfl ⟨⟨rfl, by decide, by decide⟩, rfl⟩ (fun w h Y => PySem.W.km_in_of Y) ?F (fun _ _ _ _ _ z => z)
  case F =>
    intro w mg fa h Y KX G hmg
    refine' WD.all_mk KX G hmg (PySem.W.km_tabs_of Y) ?z9a_is_list ?z9l_is_list ?z9c_is_list ?z9k_is_list ?z9a_is_integer ?z9l_is_integer ?z9c_is_integer ?z9k_is_integer ?z9a_is_number ?z9l_is_number ?z9c_is_number ?z9k_is_number ?z9a_is_name ?z9l_is_name ?z9c_is_name ?z9k_is_name ?z9a_is_variable ?z9l_is_variable ?z9c_is_variable ?z9k_is_variable ?z9a_as_word ?z9l_as_word ?z9c_as_word ?z9k_as_word ?z9a_as_atom ?z9l_as_atom ?z9c_as_atom ?z9k_as_atom ?z9a_checked_word ?z9l_checked_word ?z9c_checked_word ?z9k_checked_word ?z9a_places_in ?z9l_places_in ?z9c_places_in ?z9k_places_in ?z9a_at_in ?z9l_at_in ?z9c_at_in ?z9k_at_in ?z9a_with_part ?z9l_with_part ?z9c_with_part ?z9k_with_part ?z9a_met_in ?z9l_met_in ?z9c_met_in ?z9k_met_in ?z9a_depth_in ?z9l_depth_in ?z9c_depth_in ?z9k_depth_in ?z9a_places ?z9l_places ?z9c_places ?z9k_places ?z9a_checked_part ?z9l_checked_part ?z9c_checked_part ?z9k_checked_part ?z9a_word_at ?z9l_word_at ?z9c_word_at ?z9k_word_at ?z9a_word_put ?z9l_word_put ?z9c_word_put ?z9k_word_put ?z9a_depth ?z9l_depth ?z9c_depth ?z9k_depth ?z9a_variables_of ?z9l_variables_of ?z9c_variables_of ?z9k_variables_of ?z9a__law_d_word ?z9l__law_d_word ?z9c__law_d_word ?z9k__law_d_word ?z9a__law_d_atom ?z9l__law_d_atom ?z9c__law_d_atom ?z9k__law_d_atom ?z9a__law_d_parts ?z9l__law_d_parts ?z9c__law_d_parts ?z9k__law_d_parts ?z9a__law_d_variables ?z9l__law_d_variables ?z9c__law_d_variables ?z9k__law_d_variables ?z9a__law_d_odd_words ?z9l__law_d_odd_words ?z9c__law_d_odd_words ?z9k__law_d_odd_words ?z9a__law_d_loose ?z9l__law_d_loose ?z9c__law_d_loose ?z9k__law_d_loose ?z9a__law_d_met ?z9l__law_d_met ?z9c__law_d_met ?z9k__law_d_met ?z9a__law_start ?z9l__law_start ?z9c__law_start ?z9k__law_start ?z9a__law_draw ?z9l__law_draw ?z9c__law_draw ?z9k__law_draw ?z9a__law_pick ?z9l__law_pick ?z9c__law_pick ?z9k__law_pick ?z9a__law_same ?z9l__law_same ?z9c__law_same ?z9k__law_same ?z9a__law_each_once ?z9l__law_each_once ?z9c__law_each_once ?z9k__law_each_once ?z9a__law_depth ?z9l__law_depth ?z9c__law_depth ?z9k__law_depth ?z9a__law_exchanged ?z9l__law_exchanged ?z9c__law_exchanged ?z9k__law_exchanged ?z9a__law_word_right ?z9l__law_word_right ?z9c__law_word_right ?z9k__law_word_right ?z9nt__law_word_right ?z9mt__law_word_right ?z9hc__law_word_right ?z9a_law ?z9l_law ?z9c_law ?z9k_law ?z9nt_law ?z9mt_law ?z9hc_law ?z9hne ?z9g0 ?z9x0 ?z9n0 ?z9g1 ?z9x1 ?z9n1 ?z9g2 ?z9x2 ?z9n2 ?z9g3 ?z9x3 ?z9n3 ?z9g4 ?z9x4 ?z9n4 ?z9g5 ?z9x5 ?z9n5 ?z9g6 ?z9x6 ?z9n6 ?z9g7 ?z9x7 ?z9n7 ?z9g8 ?z9x8 ?z9n8 ?z9g9 ?z9x9 ?z9n9 ?z9g10 ?z9x10 ?z9n10 ?z9g11 ?z9x11 ?z9n11 ?z9g12 ?z9x12 ?z9n12 ?z9g13 ?z9x13 ?z9n13 ?z9m00 ?z9m10 ?z9m11 ?z9o0 ?z9sa0 ?z9ex0 ?z9ty0 ?z9kc0 ?z9ai0 ?z9li0 ?z9ci0 ?z9ki0 ?z9ti0 ?z9o1 ?z9sa1 ?z9ex1 ?z9ty1 ?z9kc1 ?z9ai1 ?z9li1 ?z9ci1 ?z9ki1 ?z9ti1 ?z9aS ?z9aF ?z9aK ?z9aWd ?z9lW ?z9hW ?z9eW ?z9z_isinstance ?z9z_str ?z9z_list ?z9z_tuple ?z9z_int ?z9z_bool ?z9z_dict ?z9z_len ?z9z_all ?z9z_range ?z9z_enumerate ?z9z_zip ?z9z_max ?z9z_min ?z9z_repr
    (case z9a_is_list => k_is)
    (case z9l_is_list => k_is)
    (case z9c_is_list => k_is)
    (case z9k_is_list => k_is)
    (case z9a_is_integer => k_is)
    (case z9l_is_integer => k_is)
    (case z9c_is_integer => k_is)
    (case z9k_is_integer => k_is)
    (case z9a_is_number => k_is)
    (case z9l_is_number => k_is)
    (case z9c_is_number => k_is)
    (case z9k_is_number => k_is)
    (case z9a_is_name => k_is)
    (case z9l_is_name => k_is)
    (case z9c_is_name => k_is)
    (case z9k_is_name => k_is)
    (case z9a_is_variable => k_is)
    (case z9l_is_variable => k_is)
    (case z9c_is_variable => k_is)
    (case z9k_is_variable => k_is)
    (case z9a_as_word => k_is)
    (case z9l_as_word => k_is)
    (case z9c_as_word => k_is)
    (case z9k_as_word => k_is)
    (case z9a_as_atom => k_is)
    (case z9l_as_atom => k_is)
    (case z9c_as_atom => k_is)
    (case z9k_as_atom => k_is)
    (case z9a_checked_word => k_is)
    (case z9l_checked_word => k_is)
    (case z9c_checked_word => k_is)
    (case z9k_checked_word => k_is)
    (case z9a_places_in => k_is)
    (case z9l_places_in => k_is)
    (case z9c_places_in => k_is)
    (case z9k_places_in => k_is)
    (case z9a_at_in => k_is)
    (case z9l_at_in => k_is)
    (case z9c_at_in => k_is)
    (case z9k_at_in => k_is)
    (case z9a_with_part => k_is)
    (case z9l_with_part => k_is)
    (case z9c_with_part => k_is)
    (case z9k_with_part => k_is)
    (case z9a_met_in => k_is)
    (case z9l_met_in => k_is)
    (case z9c_met_in => k_is)
    (case z9k_met_in => k_is)
    (case z9a_depth_in => k_is)
    (case z9l_depth_in => k_is)
    (case z9c_depth_in => k_is)
    (case z9k_depth_in => k_is)
    (case z9a_places => k_is)
    (case z9l_places => k_is)
    (case z9c_places => k_is)
    (case z9k_places => k_is)
    (case z9a_checked_part => k_is)
    (case z9l_checked_part => k_is)
    (case z9c_checked_part => k_is)
    (case z9k_checked_part => k_is)
    (case z9a_word_at => k_is)
    (case z9l_word_at => k_is)
    (case z9c_word_at => k_is)
    (case z9k_word_at => k_is)
    (case z9a_word_put => k_is)
    (case z9l_word_put => k_is)
    (case z9c_word_put => k_is)
    (case z9k_word_put => k_is)
    (case z9a_depth => k_is)
    (case z9l_depth => k_is)
    (case z9c_depth => k_is)
    (case z9k_depth => k_is)
    (case z9a_variables_of => k_is)
    (case z9l_variables_of => k_is)
    (case z9c_variables_of => k_is)
    (case z9k_variables_of => k_is)
    (case z9a__law_d_word => k_is)
    (case z9l__law_d_word => k_is)
    (case z9c__law_d_word => k_is)
    (case z9k__law_d_word => k_is)
    (case z9a__law_d_atom => k_is)
    (case z9l__law_d_atom => k_is)
    (case z9c__law_d_atom => k_is)
    (case z9k__law_d_atom => k_is)
    (case z9a__law_d_parts => k_is)
    (case z9l__law_d_parts => k_is)
    (case z9c__law_d_parts => k_is)
    (case z9k__law_d_parts => k_is)
    (case z9a__law_d_variables => k_is)
    (case z9l__law_d_variables => k_is)
    (case z9c__law_d_variables => k_is)
    (case z9k__law_d_variables => k_is)
    (case z9a__law_d_odd_words => k_is)
    (case z9l__law_d_odd_words => k_is)
    (case z9c__law_d_odd_words => k_is)
    (case z9k__law_d_odd_words => k_is)
    (case z9a__law_d_loose => k_is)
    (case z9l__law_d_loose => k_is)
    (case z9c__law_d_loose => k_is)
    (case z9k__law_d_loose => k_is)
    (case z9a__law_d_met => k_is)
    (case z9l__law_d_met => k_is)
    (case z9c__law_d_met => k_is)
    (case z9k__law_d_met => k_is)
    (case z9a__law_start => k_is)
    (case z9l__law_start => k_is)
    (case z9c__law_start => k_is)
    (case z9k__law_start => k_is)
    (case z9a__law_draw => k_is)
    (case z9l__law_draw => k_is)
    (case z9c__law_draw => k_is)
    (case z9k__law_draw => k_is)
    (case z9a__law_pick => k_is)
    (case z9l__law_pick => k_is)
    (case z9c__law_pick => k_is)
    (case z9k__law_pick => k_is)
    (case z9a__law_same => k_is)
    (case z9l__law_same => k_is)
    (case z9c__law_same => k_is)
    (case z9k__law_same => k_is)
    (case z9a__law_each_once => k_is)
    (case z9l__law_each_once => k_is)
    (case z9c__law_each_once => k_is)
    (case z9k__law_each_once => k_is)
    (case z9a__law_depth => k_is)
    (case z9l__law_depth => k_is)
    (case z9c__law_depth => k_is)
    (case z9k__law_depth => k_is)
    (case z9a__law_exchanged => k_is)
    (case z9l__law_exchanged => k_is)
    (case z9c__law_exchanged => k_is)
    (case z9k__law_exchanged => k_is)
    (case z9a__law_word_right => k_is)
    (case z9l__law_word_right => k_is)
    (case z9c__law_word_right => k_is)
    (case z9k__law_word_right => k_is)
    (case z9nt__law_word_right => kernel_rfl)
    (case z9mt__law_word_right => kernel_rfl)
    (case z9hc__law_word_right => kernel_rfl)
    (case z9a_law => k_is)
    (case z9l_law => k_is)
    (case z9c_law => k_is)
    (case z9k_law => k_is)
    (case z9nt_law => kernel_rfl)
    (case z9mt_law => kernel_rfl)
    (case z9hc_law => kernel_rfl)
    (case z9hne => kernel_rfl)
    (case z9g0 => k_is)
    (case z9x0 => kernel_rfl)
    (case z9n0 => k_is)
    (case z9g1 => k_is)
    (case z9x1 => kernel_rfl)
    (case z9n1 => k_is)
    (case z9g2 => k_is)
    (case z9x2 => kernel_rfl)
    (case z9n2 => k_is)
    (case z9g3 => k_is)
    (case z9x3 => kernel_rfl)
    (case z9n3 => k_is)
    (case z9g4 => k_is)
    (case z9x4 => kernel_rfl)
    (case z9n4 => k_is)
    (case z9g5 => k_is)
    (case z9x5 => kernel_rfl)
    (case z9n5 => k_is)
    (case z9g6 => k_is)
    (case z9x6 => kernel_rfl)
    (case z9n6 => k_is)
    (case z9g7 => k_is)
    (case z9x7 => kernel_rfl)
    (case z9n7 => k_is)
    (case z9g8 => k_is)
    (case z9x8 => kernel_rfl)
    (case z9n8 => k_is)
    (case z9g9 => k_is)
    (case z9x9 => kernel_rfl)
    (case z9n9 => k_is)
    (case z9g10 => k_is)
    (case z9x10 => kernel_rfl)
    (case z9n10 => k_is)
    (case z9g11 => k_is)
    (case z9x11 => kernel_rfl)
    (case z9n11 => k_is)
    (case z9g12 => k_is)
    (case z9x12 => kernel_rfl)
    (case z9n12 => k_is)
    (case z9g13 => k_is)
    (case z9x13 => kernel_rfl)
    (case z9n13 => k_is)
    (case z9m00 => kernel_rfl)
    (case z9m10 => kernel_rfl)
    (case z9m11 => kernel_rfl)
    (case z9o0 => k_is)
    (case z9sa0 => k_is)
    (case z9ex0 => k_is)
    (case z9ty0 => k_is)
    (case z9kc0 => k_is)
    (case z9ai0 => k_is)
    (case z9li0 => k_is)
    (case z9ci0 => k_is)
    (case z9ki0 => k_is)
    (case z9ti0 => k_is)
    (case z9o1 => k_is)
    (case z9sa1 => k_is)
    (case z9ex1 => k_is)
    (case z9ty1 => k_is)
    (case z9kc1 => k_is)
    (case z9ai1 => k_is)
    (case z9li1 => k_is)
    (case z9ci1 => k_is)
    (case z9ki1 => k_is)
    (case z9ti1 => k_is)
    (case z9aS => k_is)
    (case z9aF => k_is)
    (case z9aK => k_is)
    (case z9aWd => k_is)
    (case z9lW => k_is)
    (case z9hW => decide)
    (case z9eW => repeat (first | exact .nil | refine .cons ⟨_, rfl⟩ ?_))
    (case z9z_isinstance => k_is)
    (case z9z_str => k_is)
    (case z9z_list => k_is)
    (case z9z_tuple => k_is)
    (case z9z_int => k_is)
    (case z9z_bool => k_is)
    (case z9z_dict => k_is)
    (case z9z_len => k_is)
    (case z9z_all => k_is)
    (case z9z_range => k_is)
    (case z9z_enumerate => k_is)
    (case z9z_zip => k_is)
    (case z9z_max => k_is)
    (case z9z_min => k_is)
    (case z9z_repr => k_is)
#print axioms PySem.Challenge.cw_eithershown_k23_whole_places_holds
