import PyProof.Rows.All
import Wide.All
import OpenK.AllK
import Wide.FinOn
import HandS.ForMost
import HandS.Zip
import KE.GoesEnum
import KE.KDictZip
import HandS.Style
import HandS.IsInst
import HandS.TupAny
import HandS.Star
import HandS.Deep
import HandS.DictComp
import HandS.LawCells
import HandS.More
import PySem.Challenge.RW_eithershown_k29_whole_no_row_down
set_option Elab.async false
-- text: XRules
set_option linter.all false
set_option maxRecDepth 100000
/-! rules of our own: enumerate over a tuple and over a dict that stands still, zip of two tuples to one name -/
namespace XR
open PySem PySem.Spec PyProof.Rows L2

/-! ### enumerate(tuple) -/
def IteT (K : PySem.W.Frag) (a : Addr) : It :=
  ⟨fun i H => ∃ (xs : List V) (x : V), SqT K H a xs ∧ xs[i]? = some x, fun i H v H' => ∃ T x, v = .ref T ∧ H T = none ∧ H' = upd H T (.tup [.int (i : Nat), x]) ∧ ∀ xs, SqT K H a xs → xs[i]? = some x, fun i H => ∃ xs : List V, SqT K H a xs ∧ xs.length ≤ i⟩
theorem turn_enumT {P : Program} {w : World} {K : PySem.W.Frag} {elts : List Expr} {kk : Nat} {tpos : Pos} (a e it : Addr) (hae : a ≠ e) (hai : a ≠ it) :
    Turn P w K (.Tuple elts kk tpos) (IteT K a) [e, it] e (fun i h => (∃ old, IsEnum h e it ((i : Nat) : Int) old) ∧ h.IsTupleIter it a i ∧ e ≠ it) where
  mem := by simp
  obj := fun i h st b hb => by
    obtain ⟨⟨old, he⟩, ⟨o, ho, hc, hd⟩, _⟩ := st
    have e' : b = e ∨ b = it := by simpa using hb
    rcases e' with z | z
    · rw [z]; exact ⟨_, he, fun v q => nomatch q⟩
    · rw [z]; exact ⟨o, ho, fun v q => by rw [hd] at q; cases q⟩
  keep := fun i h h' st k => let ⟨⟨old, he⟩, hi, hne⟩ := st; ⟨⟨old, k e (by simp) _ he⟩, hi.at fun o q => k it (by simp) o q, hne⟩
  item := by
    intro X hP hw hK hc i pins s σ H E I hf st hg
    subst hP hw hK
    obtain ⟨⟨old, he⟩, hit, hne⟩ := st
    obtain ⟨xs, x, hq, hx⟩ := hg
    obtain ⟨its, rv, p, hz⟩ := I.tuple hq
    obtain ⟨u, hu, ru⟩ := rv.get hx
    have hel : e < s.heap.objs.size := Heap.lt_size he
    have hil : it < s.heap.objs.size := by obtain ⟨_, q, _⟩ := hit; exact Heap.lt_size q
    have hlt : i < its.toArray.size := by
      have := (List.getElem?_eq_some_iff.mp hu).1
      simpa using this
    have D := Draws.tuple (prog := X.prog) (w := X.w) (A := X.A.in1) (show X.A.in1.handled = none from I.ok.hd hc) it a hai its.toArray
    have hef : e ∉ [it, a] := fun q => by
      have q' : e = it ∨ e = a := by simpa using q
      rcases q' with q' | q'
      · exact hne q'
      · exact hae q'.symm
    refine wpAny_pyNext_enum_itemC D he ⟨hit, show s.heap.IsTuple a its.toArray from p⟩ hlt hne hef fun x' h' tk hP ho hst hT hsz hk => ?_
    obtain rfl : x' = u := by
      rw [show its.toArray[i]? = its[i]? from by simp, hu] at hP
      exact (Option.some.inj hP).symm
    refine ⟨_, rfl, wpAny_letOwnedTupleGo_enum (s := { s with heap := h', toks := tk + 1 }) ho fun h'' he' sb => ?_⟩
    have hT2 : h''.get? s.heap.objs.size = some { cls := .type "tuple", data := .seq #[.int i tk, x'] } := (sb.2 _ (Nat.ne_of_gt hel)).trans hT
    have new : ObjOk X.prog X.w (upd H s.heap.objs.size (.tup [.int (i : Nat), x])) h'' s.heap.objs.size (.tup [.int (i : Nat), x]) :=
      ⟨by show 2 ≤ sizeLine; decide, [.int i tk, x'], .cons ⟨_, rfl⟩ (.cons ru .nil), ⟨_, hT2, rfl, _, rfl⟩⟩
    have I1 : Inv X pins σ (upd H s.heap.objs.size (.tup [.int (i : Nat), x])) { s with heap := h'', toks := tk + 1 } :=
      I.turnedNew (ch := [e, it]) (fun b ob hb q => (sb.2 b (fun z => hb (by simp [z]))).trans (hk b ob (fun z => hb (by simp [z])) (fun z => hb (by simp [z])) q)) hf (Nat.le_refl _) new
    refine ⟨.ref s.heap.objs.size, _, I1, rfl, ⟨_, x, rfl, I.hok.fresh (Nat.le_refl _), rfl, fun ys hy => by rw [I.tuple_inj hy hq]; exact hx⟩, ⟨⟨x', ?_⟩, hst.1.at fun o q => (sb.2 it (Ne.symm hne)).trans q, hne⟩, fun b hb => ?_⟩
    · have e1 : ((i + 1 : Nat) : Int) = (i : Int) + 1 := by omega
      rw [e1]; exact he'
    · have hb' : b < s.heap.objs.size := by
        have e' : b = e ∨ b = it := by simpa using hb
        rcases e' with z | z
        · rw [z]; exact hel
        · rw [z]; exact hil
      rw [upd_ne (Nat.ne_of_lt hb')]
      exact (hf b hb).1
  done := by
    intro X hP hw hK hc i pins s σ H E I hf st hg
    subst hP hw hK
    obtain ⟨⟨old, he⟩, hit, hne⟩ := st
    obtain ⟨xs, hq, hx⟩ := hg
    obtain ⟨its, rv, p, hz⟩ := I.tuple hq
    have hl := rv.length
    have hT : s.TypeIs (.ref e) "enumerate" := ⟨_, he, rfl⟩
    unfold pyNext
    refine wpAny_bind (wpAny_attempt (wpAny_callSpecial?_slot (name := Str.ofString "__next__") hT F.slot_enumerate_next
      (wpAny_call_entry F.slot_enumerate_next hT F.entry_enumerate_next ?_ (F.args_enumerate_next_1 _))))
    show wpAny _ _ (field (.ref e) 2 >>= _) _ _ _
    refine wpAny_bind (wpAny_field he rfl (x := .ref it) rfl ?_)
    refine wpAny_bind (wpAny_nextOf_tuple_end (show X.A.in1.handled = none from I.ok.hd hc) hit (show s.heap.IsTuple a its.toArray from p) (by simp; omega) fun h' x hx' hcl => ?_)
    obtain ⟨o, ho, hcc⟩ := hcl
    refine wpAny_bind (wpAny_isInstance (T := "StopIteration") (b := true) ⟨o, ho, hcc⟩ isSubtype_stop ?_)
    obtain ⟨f0, f1, f2, f3, f4, f5⟩ := hf it (by simp)
    exact wpAny_pure ⟨rfl, I.turned (t' := s.toks) (fun b o hb q => hx' b o hb q) f0 f1 f3 f4 f5⟩
  self := fun A i s Q E st h => let ⟨⟨_, he⟩, _⟩ := st; wpAny_pyIter_enum he h

/-! ### zip of two tuples to one name: the tuple stays out -/
theorem zipT_next_item_held {prog : Program} {w : World} {A : Around} {E : Value → Shared → Prop} {s : Shared} {z TI TO T i1 i2 l1 l2 : Addr} {f : Bool} {oT : Obj} {k1 k2 : Nat} {xs ys : Array Value} {x y : Value} {Q : Value → Shared → Prop} (D : ZipApart z TI TO i1 i2 l1 l2)
    (hz : IsZipHeld s.heap z TI TO T f) (hT : s.heap.get? T = some oT) (hTI : IsPair s.heap TI (.ref i1) (.ref i2))
    (h1 : s.heap.IsTupleIter i1 l1 k1) (h2 : s.heap.IsTupleIter i2 l2 k2) (hl1 : s.heap.IsTuple l1 xs) (hl2 : s.heap.IsTuple l2 ys) (hx : xs[k1]? = some x) (hy : ys[k2]? = some y)
    (hQ : ∀ h', IsZipHeld h' z TI TO T true → h'.IsTupleIter i1 l1 (k1 + 1) → h'.IsTupleIter i2 l2 (k2 + 1) → IsPair h' s.heap.objs.size x y → h'.objs.size = s.heap.objs.size + 1 →
      (∀ c o, c ≠ z → c ≠ i1 → c ≠ i2 → s.heap.get? c = some o → h'.get? c = some o) → Q (.ref s.heap.objs.size) { s with heap := h' }) :
    wpAny (model prog w) A (Builtin.«zip.__next__» ⟨[.ref z], []⟩) (fun fin s' => ∃ v, fin = .done (.ret v) ∧ Q v s') E s := by
  show wpAny _ _ (field (.ref z) 2 >>= _) _ _ _
  refine wpAny_bind (wpAny_field hz rfl (x := .bool false) rfl ?_)
  show wpAny _ _ (field (.ref z) 3 >>= _) _ _ _
  refine wpAny_bind (wpAny_field hz rfl (x := .ref TI) rfl ?_)
  refine wpAny_bind (wpAny_seqItems hTI rfl ?_)
  show wpAny _ _ (Builtin.SmallTypes.ownedTupleIsFree (.ref z) >>= _) _ _ _
  refine wpAny_bind (wpAny_tupleHeld_zip hz hT fun h₁ hz₁ hs₁ => ?_)
  simp only [Bool.false_eq_true, if_false]
  refine wpAny_bind ?_
  rw [← Array.forIn_toList]
  simp only [List.forIn_cons, List.forIn_nil]
  refine wpAny_bind (wpAny_bind (wpAny_holding ?_))
  show wpAny _ _ (Builtin.SmallTypes.nextOf (.ref i1) >>= _) _ _ _
  refine wpAny_bind (wpAny_nextOf_tuple_item (s := { s with heap := h₁ }) (h1.at fun o q => hs₁.extBut _ _ D.i1z q) (hl1.extBut hs₁.extBut D.l1z) hx fun h₂ h1₂ hs₂ => wpAny_pure ?_)
  refine wpAny_pure ?_
  refine wpAny_bind (wpAny_bind (wpAny_holding ?_))
  show wpAny _ _ (Builtin.SmallTypes.nextOf (.ref i2) >>= _) _ _ _
  refine wpAny_bind (wpAny_nextOf_tuple_item (s := { s with heap := h₂ }) (h2.at fun o q => hs₂.extBut _ _ D.i12.symm (hs₁.extBut _ _ D.i2z q)) ((hl2.extBut hs₁.extBut D.l2z).extBut hs₂.extBut D.l2i1) hy fun h₃ h2₃ hs₃ => wpAny_pure ?_)
  refine wpAny_pure (wpAny_pure ?_)
  show wpAny _ _ (newTuple [x, y] >>= _) _ _ _
  refine wpAny_bind (wpAny_newTuple ?_)
  have hsz : h₃.objs.size = s.heap.objs.size := by rw [hs₃.1, hs₂.1, hs₁.1]
  have hz₃ : IsZipHeld h₃ z TI TO T true := hs₃.extBut _ _ D.i2z.symm (hs₂.extBut _ _ D.i1z.symm hz₁)
  have hk : ∀ c o, c ≠ z → c ≠ i1 → c ≠ i2 → s.heap.get? c = some o → h₃.get? c = some o := fun c o c1 c2 c3 e => hs₃.extBut _ _ c3 (hs₂.extBut _ _ c2 (hs₁.extBut _ _ c1 e))
  have h1₃ : h₃.IsTupleIter i1 l1 (k1 + 1) := h1₂.at fun o q => hs₃.extBut _ _ D.i12 q
  refine wpAny_pure ⟨_, rfl, ?_⟩
  show Q (.ref h₃.objs.size) _
  have hp : IsPair (h₃.push { cls := .type "tuple", data := .seq #[x, y] }) h₃.objs.size x y := Heap.get?_push_size _ rfl
  have hz4 : (h₃.push { cls := .type "tuple", data := .seq #[x, y] }).objs.size = h₃.objs.size + 1 := Heap.size_push ..
  rw [hsz] at hp hz4 ⊢
  exact hQ _ (Heap.get?_push_of_some _ hz₃) (h1₃.at fun o e => Heap.get?_push_of_some _ e) (h2₃.at fun o e => Heap.get?_push_of_some _ e) hp hz4 fun c o c1 c2 c3 e => Heap.get?_push_of_some _ (hk c o c1 c2 c3 e)
theorem zipT_next_end_held {prog : Program} {w : World} {A : Around} {E : Value → Shared → Prop} {s : Shared} {z TI TO T i1 i2 l1 l2 : Addr} {f : Bool} {oT : Obj} {k1 k2 : Nat} {xs ys : Array Value} {Q : Fin → Shared → Prop} (hh : A.handled = none) (D : ZipApart z TI TO i1 i2 l1 l2)
    (hz : IsZipHeld s.heap z TI TO T f) (hT : s.heap.get? T = some oT) (hTI : IsPair s.heap TI (.ref i1) (.ref i2))
    (h1 : s.heap.IsTupleIter i1 l1 k1) (h2 : s.heap.IsTupleIter i2 l2 k2) (hl1 : s.heap.IsTuple l1 xs) (hl2 : s.heap.IsTuple l2 ys) (hend : xs[k1]? = none ∨ ys[k2]? = none)
    (hE : ∀ h' e, (∀ c o, c ≠ z → c ≠ i1 → c ≠ i2 → s.heap.get? c = some o → h'.get? c = some o) → (∃ o, h'.get? e = some o ∧ o.cls = .type "StopIteration") → E (.ref e) { s with heap := h' }) :
    wpAny (model prog w) A (Builtin.«zip.__next__» ⟨[.ref z], []⟩) Q E s := by
  show wpAny _ _ (field (.ref z) 2 >>= _) _ _ _
  refine wpAny_bind (wpAny_field hz rfl (x := .bool false) rfl ?_)
  show wpAny _ _ (field (.ref z) 3 >>= _) _ _ _
  refine wpAny_bind (wpAny_field hz rfl (x := .ref TI) rfl ?_)
  refine wpAny_bind (wpAny_seqItems hTI rfl ?_)
  show wpAny _ _ (Builtin.SmallTypes.ownedTupleIsFree (.ref z) >>= _) _ _ _
  refine wpAny_bind (wpAny_tupleHeld_zip hz hT fun h₁ hz₁ hs₁ => ?_)
  simp only [Bool.false_eq_true, if_false]
  refine wpAny_bind ?_
  rw [← Array.forIn_toList]
  simp only [List.forIn_cons, List.forIn_nil]
  refine wpAny_bind (wpAny_bind (wpAny_holding ?_))
  show wpAny _ _ (Builtin.SmallTypes.nextOf (.ref i1) >>= _) _ _ _
  cases hx : xs[k1]? with
  | none =>
    refine wpAny_bind (wpAny_nextOf_tuple_end (s := { s with heap := h₁ }) hh (h1.at fun o q => hs₁.extBut _ _ D.i1z q) (hl1.extBut hs₁.extBut D.l1z) hx fun h₂ e hs₂ he => ?_)
    exact hE h₂ e (fun c o c1 c2 _ x => hs₂ _ _ c2 (hs₁.extBut _ _ c1 x)) he
  | some x =>
    have hy : ys[k2]? = none := by rcases hend with h | h; rw [hx] at h; cases h; exact h
    refine wpAny_bind (wpAny_nextOf_tuple_item (s := { s with heap := h₁ }) (h1.at fun o q => hs₁.extBut _ _ D.i1z q) (hl1.extBut hs₁.extBut D.l1z) hx fun h₂ h1₂ hs₂ => wpAny_pure ?_)
    refine wpAny_pure ?_
    refine wpAny_bind (wpAny_bind (wpAny_holding ?_))
    show wpAny _ _ (Builtin.SmallTypes.nextOf (.ref i2) >>= _) _ _ _
    refine wpAny_bind (wpAny_nextOf_tuple_end (s := { s with heap := h₂ }) hh (h2.at fun o q => hs₂.extBut _ _ D.i12.symm (hs₁.extBut _ _ D.i2z q)) ((hl2.extBut hs₁.extBut D.l2z).extBut hs₂.extBut D.l2i1) hy fun h₃ e hs₃ he => ?_)
    exact hE h₃ e (fun c o c1 c2 c3 x => hs₃ _ _ c3 (hs₂.extBut _ _ c2 (hs₁.extBut _ _ c1 x))) he
theorem pyNext_zipT_item_held {prog : Program} {w : World} {A : Around} {E : Value → Shared → Prop} {s : Shared} {z TI TO T i1 i2 l1 l2 : Addr} {f : Bool} {oT : Obj} {k1 k2 : Nat} {xs ys : Array Value} {x y : Value} {Q : Option Value → Shared → Prop} (D : ZipApart z TI TO i1 i2 l1 l2)
    (hz : IsZipHeld s.heap z TI TO T f) (hT : s.heap.get? T = some oT) (hTI : IsPair s.heap TI (.ref i1) (.ref i2))
    (h1 : s.heap.IsTupleIter i1 l1 k1) (h2 : s.heap.IsTupleIter i2 l2 k2) (hl1 : s.heap.IsTuple l1 xs) (hl2 : s.heap.IsTuple l2 ys) (hx : xs[k1]? = some x) (hy : ys[k2]? = some y)
    (hQ : ∀ h', IsZipHeld h' z TI TO T true → h'.IsTupleIter i1 l1 (k1 + 1) → h'.IsTupleIter i2 l2 (k2 + 1) → IsPair h' s.heap.objs.size x y → h'.objs.size = s.heap.objs.size + 1 →
      (∀ c o, c ≠ z → c ≠ i1 → c ≠ i2 → s.heap.get? c = some o → h'.get? c = some o) → Q (some (.ref s.heap.objs.size)) { s with heap := h' }) :
    wpAny (model prog w) A (pyNext (.ref z)) Q E s := by
  have hTy : s.TypeIs (.ref z) "zip" := ⟨_, hz, rfl⟩
  unfold pyNext
  exact wpAny_bind (wpAny_attempt (wpAny_callSpecial?_slot (name := Str.ofString "__next__") hTy F.slot_zip_next
    (wpAny_call_entry F.slot_zip_next hTy F.entry_zip_next
      (zipT_next_item_held D hz hT hTI h1 h2 hl1 hl2 hx hy fun h' a1 a3 a4 a5 a6 a7 => wpAny_pure (hQ h' a1 a3 a4 a5 a6 a7)) (F.args_zip_next_1 _))))
theorem pyNext_zipT_end_held {prog : Program} {w : World} {A : Around} {E : Value → Shared → Prop} {s : Shared} {z TI TO T i1 i2 l1 l2 : Addr} {f : Bool} {oT : Obj} {k1 k2 : Nat} {xs ys : Array Value} {Q : Option Value → Shared → Prop} (hh : A.handled = none) (D : ZipApart z TI TO i1 i2 l1 l2)
    (hz : IsZipHeld s.heap z TI TO T f) (hT : s.heap.get? T = some oT) (hTI : IsPair s.heap TI (.ref i1) (.ref i2))
    (h1 : s.heap.IsTupleIter i1 l1 k1) (h2 : s.heap.IsTupleIter i2 l2 k2) (hl1 : s.heap.IsTuple l1 xs) (hl2 : s.heap.IsTuple l2 ys) (hend : xs[k1]? = none ∨ ys[k2]? = none)
    (hQ : ∀ h', (∀ c o, c ≠ z → c ≠ i1 → c ≠ i2 → s.heap.get? c = some o → h'.get? c = some o) → Q none { s with heap := h' }) : wpAny (model prog w) A (pyNext (.ref z)) Q E s := by
  have hTy : s.TypeIs (.ref z) "zip" := ⟨_, hz, rfl⟩
  unfold pyNext
  refine wpAny_bind (wpAny_attempt (wpAny_callSpecial?_slot (name := Str.ofString "__next__") hTy F.slot_zip_next
    (wpAny_call_entry F.slot_zip_next hTy F.entry_zip_next (zipT_next_end_held hh D hz hT hTI h1 h2 hl1 hl2 hend fun h' e hk he => ?_) (F.args_zip_next_1 _))))
  obtain ⟨o, ho, hc⟩ := he
  refine wpAny_bind (wpAny_isInstance (T := "StopIteration") (b := true) ⟨o, ho, hc⟩ isSubtype_stop ?_)
  exact wpAny_pure (hQ _ hk)

/-! the zip takes its own tuple again, or a first time: told by what it asks of that tuple -/
section
variable {prog : Program} {w : World} {A : Around} {E : Value → Shared → Prop} {s : Shared}
def Takes1 (prog : Program) (w : World) (A : Around) (z : Addr) (s : Shared) : Prop := ∀ (Q : Bool → Shared → Prop) (E : Value → Shared → Prop), Q true s → wpAny (model prog w) A (Builtin.SmallTypes.ownedTupleIsFree (.ref z)) Q E s
theorem takes_none {z TI TO : Addr} (hz : IsZip s.heap z TI TO .none) : Takes1 prog w A z s := fun Q E q => by
  unfold Builtin.SmallTypes.ownedTupleIsFree
  exact wpAny_bind (wpAny_field hz rfl (x := .none) rfl (wpAny_pure q))
theorem alive_no {a : Addr} {Q : Option Obj → Shared → Prop} (ho : s.heap.get? a = none) (h : Q none s) : wpAny (model prog w) A (loadIfAlive a) Q E s := by
  have h' : Q (s.heap.get? a) s := by rw [ho]; exact h
  exact fun _ _ _ => h'
/-- a zip with any two first fields -/
abbrev IsZip3 (h : Heap) (z TI TO : Addr) (v : Value) (f : Bool) : Prop :=
  h.get? z = some { cls := .type "zip", dict := none, data := .fields #[v, .bool f, .bool false, .ref TI, .ref TO], slots := #[] }
theorem takes_gone {z TI TO T : Addr} {f : Bool} (hz : IsZip3 s.heap z TI TO (rawInt T) f) (hT : s.heap.get? T = none) : Takes1 prog w A z s := fun Q E q => by
  unfold Builtin.SmallTypes.ownedTupleIsFree
  refine wpAny_bind (wpAny_field hz rfl (x := rawInt T) rfl ?_)
  show wpAny _ _ (loadIfAlive ((T : Int).toNat) >>= _) _ _ _
  rw [Int.toNat_natCast]
  refine wpAny_bind (alive_no hT ?_)
  simp only [Option.isNone_none, if_true]
  exact wpAny_pure q
theorem zipO_next_item {z TI TO i1 i2 l1 l2 : Addr} {k1 k2 : Nat} {xs ys : Array Value} {x y a b v : Value} {f : Bool} {Q : Value → Shared → Prop} (D : ZipApart z TI TO i1 i2 l1 l2)
    (hz : IsZip3 s.heap z TI TO v f) (hfree : Takes1 prog w A z s) (hTI : IsPair s.heap TI (.ref i1) (.ref i2)) (hTO : IsPair s.heap TO a b)
    (h1 : s.heap.IsTupleIter i1 l1 k1) (h2 : s.heap.IsTupleIter i2 l2 k2) (hl1 : s.heap.IsTuple l1 xs) (hl2 : s.heap.IsTuple l2 ys) (hx : xs[k1]? = some x) (hy : ys[k2]? = some y)
    (hQ : ∀ h', IsZip3 h' z TI TO (rawInt s.heap.objs.size) false → IsPair h' TO x y → h'.IsTupleIter i1 l1 (k1 + 1) → h'.IsTupleIter i2 l2 (k2 + 1) → IsPair h' s.heap.objs.size x y → h'.objs.size = s.heap.objs.size + 1 →
      (∀ c o, c ≠ z → c ≠ TO → c ≠ i1 → c ≠ i2 → s.heap.get? c = some o → h'.get? c = some o) → Q (.ref s.heap.objs.size) { s with heap := h' }) :
    wpAny (model prog w) A (Builtin.«zip.__next__» ⟨[.ref z], []⟩) (fun fin s' => ∃ v, fin = .done (.ret v) ∧ Q v s') E s := by
  show wpAny _ _ (field (.ref z) 2 >>= _) _ _ _
  refine wpAny_bind (wpAny_field hz rfl (x := .bool false) rfl ?_)
  show wpAny _ _ (field (.ref z) 3 >>= _) _ _ _
  refine wpAny_bind (wpAny_field hz rfl (x := .ref TI) rfl ?_)
  refine wpAny_bind (wpAny_seqItems hTI rfl ?_)
  show wpAny _ _ (Builtin.SmallTypes.ownedTupleIsFree (.ref z) >>= _) _ _ _
  refine wpAny_bind (hfree _ _ ?_)
  simp only [if_true]
  refine wpAny_bind (wpAny_rule ?_)
  refine wpAny_bind (wpAny_field hz rfl (x := .ref TO) rfl ?_)
  refine wpAny_bind (wpAny_setField_rec hz (by simp) fun h₁ hz₁ hs₁ => ?_)
  replace hz₁ : IsZip3 h₁ z TI TO .ellipsis f := hz₁
  refine wpAny_bind ?_
  simp only [List.zipIdx_cons, List.zipIdx_nil, List.forIn_cons, List.forIn_nil]

  refine wpAny_bind (wpAny_bind (wpAny_onRaise ?_))
  show wpAny _ _ (Builtin.SmallTypes.nextOf (.ref i1) >>= _) _ _ _
  refine wpAny_bind (RZ.nextOf_tuple_item (h1.extBut hs₁.extBut D.i1z) (hl1.extBut hs₁.extBut D.l1z) hx fun h₂ h1₂ hs₂ => wpAny_pure ?_)
  have hTO₂ : IsPair h₂ TO a b := hs₂.extBut _ _ D.TOi1 (hs₁.extBut _ _ D.TOz hTO)
  refine wpAny_bind (wpAny_seqItems hTO₂ rfl ?_)
  refine wpAny_bind (wpAny_updateSeq_pair hTO₂ fun h₃ hTO₃ hs₃ => ?_)
  replace hTO₃ : IsPair h₃ TO x b := hTO₃
  refine wpAny_bind (wpAny_letGo (wpAny_pure ?_))

  refine wpAny_bind (wpAny_bind (wpAny_onRaise ?_))
  show wpAny _ _ (Builtin.SmallTypes.nextOf (.ref i2) >>= _) _ _ _
  refine wpAny_bind (RZ.nextOf_tuple_item (((h2.extBut hs₁.extBut D.i2z).extBut hs₂.extBut D.i12.symm).extBut hs₃.extBut D.TOi2.symm)
    (((hl2.extBut hs₁.extBut D.l2z).extBut hs₂.extBut D.l2i1).extBut hs₃.extBut D.l2TO) hy fun h₄ h2₄ hs₄ => wpAny_pure ?_)
  have hTO₄ : IsPair h₄ TO x b := hs₄.extBut _ _ D.TOi2 hTO₃
  refine wpAny_bind (wpAny_seqItems hTO₄ rfl ?_)
  refine wpAny_bind (wpAny_updateSeq_pair hTO₄ fun h₅ hTO₅ hs₅ => ?_)
  replace hTO₅ : IsPair h₅ TO x y := hTO₅
  refine wpAny_bind (wpAny_letGo (wpAny_pure (wpAny_pure ?_)))

  refine wpAny_bind (wpAny_seqItems hTO₅ rfl ?_)
  refine wpAny_bind (wpAny_newTuple ?_)
  have hsz : h₅.objs.size = s.heap.objs.size := by rw [hs₅.1, hs₄.1, hs₃.1, hs₂.1, hs₁.1]
  have hz₅ : IsZip3 h₅ z TI TO .ellipsis f := hs₅.extBut _ _ D.TOz.symm (hs₄.extBut _ _ D.i2z.symm (hs₃.extBut _ _ D.TOz.symm (hs₂.extBut _ _ D.i1z.symm hz₁)))
  have hk₅ : ∀ c o, c ≠ z → c ≠ TO → c ≠ i1 → c ≠ i2 → s.heap.get? c = some o → h₅.get? c = some o := fun c o c1 c2 c3 c4 e =>
    hs₅.extBut _ _ c2 (hs₄.extBut _ _ c4 (hs₃.extBut _ _ c2 (hs₂.extBut _ _ c3 (hs₁.extBut _ _ c1 e))))
  have h1₅ : h₅.IsTupleIter i1 l1 (k1 + 1) := ((h1₂.extBut hs₃.extBut D.TOi1.symm).extBut hs₄.extBut D.i12).extBut hs₅.extBut D.TOi1.symm
  have h2₅ : h₅.IsTupleIter i2 l2 (k2 + 1) := h2₄.extBut hs₅.extBut D.TOi2.symm
  have hzlt : z < h₅.objs.size := Heap.lt_size hz₅
  have hTOlt : TO < h₅.objs.size := Heap.lt_size hTO₅
  have hi1lt : i1 < h₅.objs.size := by obtain ⟨_, e, _⟩ := h1₅; exact Heap.lt_size e
  have hi2lt : i2 < h₅.objs.size := by obtain ⟨_, e, _⟩ := h2₅; exact Heap.lt_size e
  show wpAny _ _ (Builtin.SmallTypes.ownedTupleHandOut (.ref z) (.ref h₅.objs.size) >>= _) _ _ _
  refine wpAny_bind ?_
  unfold Builtin.SmallTypes.ownedTupleHandOut
  have hz₆ : IsZip3 (h₅.push { cls := .type "tuple", data := .seq #[x, y] }) z TI TO .ellipsis f := Heap.get?_push_of_some _ hz₅
  refine wpAny_bind (wpAny_setField_rec hz₆ (by simp) fun h₇ hz₇ hs₇ => ?_)
  replace hz₇ : IsZip3 h₇ z TI TO (rawInt h₅.objs.size) f := hz₇
  refine wpAny_setField_rec hz₇ (by simp) fun h₈ hz₈ hs₈ => ?_
  replace hz₈ : IsZip3 h₈ z TI TO (rawInt h₅.objs.size) false := hz₈
  have up : ∀ c o, c ≠ z → h₅.get? c = some o → h₈.get? c = some o := fun c o c1 e => hs₈.extBut _ _ c1 (hs₇.extBut _ _ c1 (Heap.get?_push_of_some _ e))
  have hT₈ : IsPair h₈ h₅.objs.size x y := hs₈.extBut _ _ (Nat.ne_of_gt hzlt) (hs₇.extBut _ _ (Nat.ne_of_gt hzlt) (Heap.get?_push_size _ rfl))
  have hz8 : h₈.objs.size = h₅.objs.size + 1 := by rw [hs₈.1, hs₇.1, Heap.size_push]
  rw [hsz] at hz₈ hT₈ hz8
  refine wpAny_pure ⟨_, rfl, ?_⟩
  show Q (.ref h₅.objs.size) _
  rw [hsz]
  exact hQ h₈ hz₈ (up _ _ D.TOz hTO₅) (h1₅.at fun o e => up _ o D.i1z e) (h2₅.at fun o e => up _ o D.i2z e) hT₈ hz8 fun c o c1 c2 c3 c4 e => up c o c1 (hk₅ c o c1 c2 c3 c4 e)

theorem zipO_next_end {z TI TO i1 i2 l1 l2 : Addr} {k1 k2 : Nat} {xs ys : Array Value} {a b v : Value} {f : Bool} {Q : Fin → Shared → Prop} (hh : A.handled = none) (D : ZipApart z TI TO i1 i2 l1 l2)
    (hz : IsZip3 s.heap z TI TO v f) (hfree : Takes1 prog w A z s) (hTI : IsPair s.heap TI (.ref i1) (.ref i2)) (hTO : IsPair s.heap TO a b)
    (h1 : s.heap.IsTupleIter i1 l1 k1) (h2 : s.heap.IsTupleIter i2 l2 k2) (hl1 : s.heap.IsTuple l1 xs) (hl2 : s.heap.IsTuple l2 ys) (hend : xs[k1]? = none ∨ ys[k2]? = none)
    (hE : ∀ h' e, (∀ c o, c ≠ z → c ≠ TO → c ≠ i1 → c ≠ i2 → s.heap.get? c = some o → h'.get? c = some o) → (∃ o, h'.get? e = some o ∧ o.cls = .type "StopIteration") → E (.ref e) { s with heap := h' }) :
    wpAny (model prog w) A (Builtin.«zip.__next__» ⟨[.ref z], []⟩) Q E s := by
  show wpAny _ _ (field (.ref z) 2 >>= _) _ _ _
  refine wpAny_bind (wpAny_field hz rfl (x := .bool false) rfl ?_)
  show wpAny _ _ (field (.ref z) 3 >>= _) _ _ _
  refine wpAny_bind (wpAny_field hz rfl (x := .ref TI) rfl ?_)
  refine wpAny_bind (wpAny_seqItems hTI rfl ?_)
  show wpAny _ _ (Builtin.SmallTypes.ownedTupleIsFree (.ref z) >>= _) _ _ _
  refine wpAny_bind (hfree _ _ ?_)
  simp only [if_true]
  refine wpAny_bind (wpAny_rule ?_)
  refine wpAny_bind (wpAny_field hz rfl (x := .ref TO) rfl ?_)
  refine wpAny_bind (wpAny_setField_rec hz (by simp) fun h₁ hz₁ hs₁ => ?_)
  replace hz₁ : IsZip3 h₁ z TI TO .ellipsis f := hz₁
  refine wpAny_bind ?_
  simp only [List.zipIdx_cons, List.zipIdx_nil, List.forIn_cons, List.forIn_nil]
  refine wpAny_bind (wpAny_bind (wpAny_onRaise ?_))
  show wpAny _ _ (Builtin.SmallTypes.nextOf (.ref i1) >>= _) _ _ _
  cases hx : xs[k1]? with
  | none =>
    refine wpAny_bind (RZ.nextOf_tuple_end hh (h1.extBut hs₁.extBut D.i1z) (hl1.extBut hs₁.extBut D.l1z) hx fun h₂ e hs₂ he => ?_)
    obtain ⟨oe, hoe, hce⟩ := he
    have hz₂ : IsZip3 h₂ z TI TO .ellipsis f := hs₂ _ _ D.i1z.symm hz₁
    have hez : e ≠ z := fun x => by subst x; rw [hz₂] at hoe; cases hoe; simp at hce
    refine wpAny_setField_rec hz₂ (by simp) fun h₃ _ hs₃ => hE h₃ e (fun c o c1 _ c3 _ x => hs₃.extBut _ _ c1 (hs₂ _ _ c3 (hs₁.extBut _ _ c1 x))) ⟨oe, hs₃.extBut _ _ hez hoe, hce⟩
  | some x =>
    have hy : ys[k2]? = none := by rcases hend with h | h; rw [hx] at h; cases h; exact h
    refine wpAny_bind (RZ.nextOf_tuple_item (h1.extBut hs₁.extBut D.i1z) (hl1.extBut hs₁.extBut D.l1z) hx fun h₂ h1₂ hs₂ => wpAny_pure ?_)
    have hTO₂ : IsPair h₂ TO a b := hs₂.extBut _ _ D.TOi1 (hs₁.extBut _ _ D.TOz hTO)
    refine wpAny_bind (wpAny_seqItems hTO₂ rfl ?_)
    refine wpAny_bind (wpAny_updateSeq_pair hTO₂ fun h₃ hTO₃ hs₃ => ?_)
    refine wpAny_bind (wpAny_letGo (wpAny_pure ?_))
    refine wpAny_bind (wpAny_bind (wpAny_onRaise ?_))
    show wpAny _ _ (Builtin.SmallTypes.nextOf (.ref i2) >>= _) _ _ _
    refine wpAny_bind (RZ.nextOf_tuple_end hh (((h2.extBut hs₁.extBut D.i2z).extBut hs₂.extBut D.i12.symm).extBut hs₃.extBut D.TOi2.symm)
      (((hl2.extBut hs₁.extBut D.l2z).extBut hs₂.extBut D.l2i1).extBut hs₃.extBut D.l2TO) hy fun h₄ e hs₄ he => ?_)
    obtain ⟨oe, hoe, hce⟩ := he
    have hz₄ : IsZip3 h₄ z TI TO .ellipsis f := hs₄ _ _ D.i2z.symm (hs₃.extBut _ _ D.TOz.symm (hs₂.extBut _ _ D.i1z.symm hz₁))
    have hez : e ≠ z := fun x => by subst x; rw [hz₄] at hoe; cases hoe; simp at hce
    refine wpAny_setField_rec hz₄ (by simp) fun h₅ _ hs₅ => hE h₅ e (fun c o c1 c2 c3 c4 x => hs₅.extBut _ _ c1 (hs₄ _ _ c4 (hs₃.extBut _ _ c2 (hs₂.extBut _ _ c3 (hs₁.extBut _ _ c1 x))))) ⟨oe, hs₅.extBut _ _ hez hoe, hce⟩


end

section
variable {prog : Program} {w : World} {A : Around} {E : Value → Shared → Prop} {s : Shared}
def ZSt (h : Heap) (z TI TO : Addr) : Prop := ∃ v f, IsZip3 h z TI TO v f ∧ ((v = .none ∧ f = false) ∨ ∃ T : Addr, v = rawInt T)
theorem zipN_item {z TI TO i1 i2 l1 l2 : Addr} {k1 k2 : Nat} {xs ys : Array Value} {x y a b : Value} {Q : Option Value → Shared → Prop} (D : ZipApart z TI TO i1 i2 l1 l2)
    (hz : ZSt s.heap z TI TO) (hTI : IsPair s.heap TI (.ref i1) (.ref i2)) (hTO : IsPair s.heap TO a b)
    (h1 : s.heap.IsTupleIter i1 l1 k1) (h2 : s.heap.IsTupleIter i2 l2 k2) (hl1 : s.heap.IsTuple l1 xs) (hl2 : s.heap.IsTuple l2 ys) (hx : xs[k1]? = some x) (hy : ys[k2]? = some y)
    (hQ : ∀ h', ZSt h' z TI TO → (∃ a b, IsPair h' TO a b) → h'.IsTupleIter i1 l1 (k1 + 1) → h'.IsTupleIter i2 l2 (k2 + 1) → IsPair h' s.heap.objs.size x y →
      (∀ c o, c ≠ z → c ≠ TO → c ≠ i1 → c ≠ i2 → s.heap.get? c = some o → h'.get? c = some o) → Q (some (.ref s.heap.objs.size)) { s with heap := h' }) :
    wpAny (model prog w) A (pyNext (.ref z)) Q E s := by
  obtain ⟨v, f, hz, hv⟩ := hz
  have hTy : s.TypeIs (.ref z) "zip" := ⟨_, hz, rfl⟩
  unfold pyNext
  refine wpAny_bind (wpAny_attempt (wpAny_callSpecial?_slot (name := Str.ofString "__next__") hTy F.slot_zip_next
    (wpAny_call_entry F.slot_zip_next hTy F.entry_zip_next ?_ (F.args_zip_next_1 _))))
  rcases hv with ⟨rfl, rfl⟩ | ⟨T, rfl⟩
  · exact zipO_next_item D hz (takes_none hz) hTI hTO h1 h2 hl1 hl2 hx hy fun h' a1 a2 a3 a4 a5 a6 a7 => wpAny_pure (hQ h' ⟨_, _, a1, .inr ⟨_, rfl⟩⟩ ⟨_, _, a2⟩ a3 a4 a5 a7)
  · cases hT : s.heap.get? T with
    | none => exact zipO_next_item D hz (takes_gone hz hT) hTI hTO h1 h2 hl1 hl2 hx hy fun h' a1 a2 a3 a4 a5 a6 a7 => wpAny_pure (hQ h' ⟨_, _, a1, .inr ⟨_, rfl⟩⟩ ⟨_, _, a2⟩ a3 a4 a5 a7)
    | some oT =>
      exact zipT_next_item_held D hz hT hTI h1 h2 hl1 hl2 hx hy fun h' a1 a3 a4 a5 a6 a7 =>
        wpAny_pure (hQ h' ⟨_, _, a1, .inr ⟨_, rfl⟩⟩ ⟨a, b, a7 TO _ D.TOz D.TOi1 D.TOi2 hTO⟩ a3 a4 a5 fun c o c1 _ c3 c4 e => a7 c o c1 c3 c4 e)
theorem stop_end {e : Addr} {h' : Heap} {Q : Option Value → Shared → Prop} (he : ∃ o, h'.get? e = some o ∧ o.cls = .type "StopIteration") (q : Q none { s with heap := h' }) :
    wpAny (model prog w) A (do
      let b ← isInstance (.ref e) (.type "StopIteration")
      if b = true then pure none else throw (Value.ref e)) Q E { s with heap := h' } := by
  obtain ⟨o, ho, hc⟩ := he
  refine wpAny_bind (wpAny_isInstance (T := "StopIteration") (b := true) ⟨o, ho, hc⟩ isSubtype_stop ?_)
  exact wpAny_pure q
theorem zipN_end {z TI TO i1 i2 l1 l2 : Addr} {k1 k2 : Nat} {xs ys : Array Value} {a b : Value} {Q : Option Value → Shared → Prop} (hh : A.handled = none) (D : ZipApart z TI TO i1 i2 l1 l2)
    (hz : ZSt s.heap z TI TO) (hTI : IsPair s.heap TI (.ref i1) (.ref i2)) (hTO : IsPair s.heap TO a b)
    (h1 : s.heap.IsTupleIter i1 l1 k1) (h2 : s.heap.IsTupleIter i2 l2 k2) (hl1 : s.heap.IsTuple l1 xs) (hl2 : s.heap.IsTuple l2 ys) (hend : xs[k1]? = none ∨ ys[k2]? = none)
    (hQ : ∀ h', (∀ c o, c ≠ z → c ≠ TO → c ≠ i1 → c ≠ i2 → s.heap.get? c = some o → h'.get? c = some o) → Q none { s with heap := h' }) : wpAny (model prog w) A (pyNext (.ref z)) Q E s := by
  obtain ⟨v, f, hz, hv⟩ := hz
  have hTy : s.TypeIs (.ref z) "zip" := ⟨_, hz, rfl⟩
  unfold pyNext
  refine wpAny_bind (wpAny_attempt (wpAny_callSpecial?_slot (name := Str.ofString "__next__") hTy F.slot_zip_next
    (wpAny_call_entry F.slot_zip_next hTy F.entry_zip_next ?_ (F.args_zip_next_1 _))))
  rcases hv with ⟨rfl, rfl⟩ | ⟨T, rfl⟩
  · refine zipO_next_end (show A.in1.handled = none from hh) D hz (takes_none hz) hTI hTO h1 h2 hl1 hl2 hend fun h' e hk he => ?_
    exact stop_end he (hQ _ hk)
  · cases hT : s.heap.get? T with
    | none =>
      refine zipO_next_end (show A.in1.handled = none from hh) D hz (takes_gone hz hT) hTI hTO h1 h2 hl1 hl2 hend fun h' e hk he => ?_
      exact stop_end he (hQ _ hk)
    | some oT =>
      refine zipT_next_end_held (show A.in1.handled = none from hh) D hz hT hTI h1 h2 hl1 hl2 hend fun h' e hk he => ?_
      exact stop_end he (hQ _ fun c o c1 _ c3 c4 q => hk c o c1 c3 c4 q)
end

theorem turn_zipTN {P : Program} {w : World} {K : PySem.W.Frag} {x : Str} {px : Pos} {a b z TI TO i1 i2 : Addr} (D : ZipApart z TI TO i1 i2 a b) :
    Turn P w K (.Name x px) (RZ.ItzT K a b) [z, TI, TO, i1, i2] z (fun i h => ZSt h z TI TO ∧ IsPair h TI (.ref i1) (.ref i2) ∧ (∃ x y, IsPair h TO x y) ∧ h.IsTupleIter i1 a i ∧ h.IsTupleIter i2 b i) where
  mem := by simp
  obj := fun i h st c hc => by
    obtain ⟨⟨v0, f0, hz, _⟩, hTI, ⟨x, y, hTO⟩, ⟨o1, e1, _, d1⟩, ⟨o2, e2, _, d2⟩⟩ := st
    have e' : c = z ∨ c = TI ∨ c = TO ∨ c = i1 ∨ c = i2 := by simpa using hc
    rcases e' with q | q | q | q | q
    · rw [q]; exact ⟨_, hz, fun v q => nomatch q⟩
    · rw [q]; exact ⟨_, hTI, fun v q => nomatch q⟩
    · rw [q]; exact ⟨_, hTO, fun v q => nomatch q⟩
    · rw [q]; exact ⟨o1, e1, fun v q => by rw [d1] at q; cases q⟩
    · rw [q]; exact ⟨o2, e2, fun v q => by rw [d2] at q; cases q⟩
  keep := fun i h h' st k => by
    obtain ⟨⟨v0, f0, hz, hv⟩, hTI, ⟨x, y, hTO⟩, h1, h2⟩ := st
    exact ⟨⟨v0, f0, k z (by simp) _ hz, hv⟩, k TI (by simp) _ hTI, ⟨x, y, k TO (by simp) _ hTO⟩, h1.at fun o q => k i1 (by simp) o q, h2.at fun o q => k i2 (by simp) o q⟩
  item := by
    intro X hP hw hK hc i pins s σ H E I hf st hg
    subst hP hw hK
    obtain ⟨hz, hTI, ⟨x0, y0, hTO⟩, h1, h2⟩ := st
    obtain ⟨xs, ys, x, y, hqx, hqy, hx, hy⟩ := hg
    obtain ⟨its, rv, p, _⟩ := I.tuple hqx
    obtain ⟨its2, rv2, p2, _⟩ := I.tuple hqy
    obtain ⟨u, hu, ru⟩ := rv.get hx
    obtain ⟨u2, hu2, ru2⟩ := rv2.get hy
    have hzl : z < s.heap.objs.size := by obtain ⟨_, _, q, _⟩ := hz; exact Heap.lt_size q
    refine zipN_item D hz hTI hTO h1 h2 (show s.heap.IsTuple a its.toArray from p) (show s.heap.IsTuple b its2.toArray from p2) (x := u) (y := u2) (by simpa using hu) (by simpa using hu2) fun h' z' TO' h1' h2' hT hk => ?_
    refine ⟨_, rfl, ?_⟩
    unfold letOwnedTupleGo
    refine wpAny_pure ?_
    have new : ObjOk X.prog X.w (upd H s.heap.objs.size (.tup [x, y])) h' s.heap.objs.size (.tup [x, y]) :=
      ⟨by show 2 ≤ sizeLine; decide, [u, u2], .cons ru (.cons ru2 .nil), ⟨_, hT, rfl, _, rfl⟩⟩
    have I1 : Inv X pins σ (upd H s.heap.objs.size (.tup [x, y])) { s with heap := h' } :=
      I.turnedNew (t' := s.toks) (ch := [z, TI, TO, i1, i2]) (fun c o hb q => hk c o (fun q' => hb (by simp [q'])) (fun q' => hb (by simp [q'])) (fun q' => hb (by simp [q'])) (fun q' => hb (by simp [q'])) q) hf (Nat.le_refl _) new
    refine ⟨.ref s.heap.objs.size, _, I1, rfl, ⟨_, x, y, rfl, I.hok.fresh (Nat.le_refl _), rfl, fun l hl => by rw [I.tuple_inj hl hqx]; exact hx, fun l hl => by rw [I.tuple_inj hl hqy]; exact hy⟩, ⟨z', ?_, TO', h1', h2'⟩, fun c hcm => ?_⟩
    · exact hk _ _ D.TIz D.TITO D.TIi1 D.TIi2 hTI
    · have hlt : c < s.heap.objs.size := by
        have e' : c = z ∨ c = TI ∨ c = TO ∨ c = i1 ∨ c = i2 := by simpa using hcm
        rcases e' with q | q | q | q | q
        · rw [q]; exact hzl
        · rw [q]; exact Heap.lt_size hTI
        · rw [q]; exact Heap.lt_size hTO
        · rw [q]; obtain ⟨_, e1, _⟩ := h1; exact Heap.lt_size e1
        · rw [q]; obtain ⟨_, e2, _⟩ := h2; exact Heap.lt_size e2
      rw [upd_ne (Nat.ne_of_lt hlt)]
      exact (hf c hcm).1
  done := by
    intro X hP hw hK hc i pins s σ H E I hf st hg
    subst hP hw hK
    obtain ⟨hz, hTI, ⟨x0, y0, hTO⟩, h1, h2⟩ := st
    obtain ⟨xs, ys, hqx, hqy, hend⟩ := hg
    obtain ⟨its, rv, p, _⟩ := I.tuple hqx
    obtain ⟨its2, rv2, p2, _⟩ := I.tuple hqy
    have l1 := rv.length
    have l2 := rv2.length
    have he : its.toArray[i]? = none ∨ its2.toArray[i]? = none := by
      rcases hend with q | q
      · exact .inl (by simp; omega)
      · exact .inr (by simp; omega)
    exact zipN_end (I.ok.hd hc) D hz hTI hTO h1 h2 (show s.heap.IsTuple a its.toArray from p) (show s.heap.IsTuple b its2.toArray from p2) he fun h' hk => ⟨rfl, I.turnedL (t' := s.toks) (ch := [z, TI, TO, i1, i2]) (fun c o hb q =>
      hk c o (fun q' => hb (by simp [q'])) (fun q' => hb (by simp [q'])) (fun q' => hb (by simp [q'])) (fun q' => hb (by simp [q'])) q) hf⟩
  self := fun A i s Q E st h => by
    obtain ⟨⟨v0, f0, hz, _⟩, _⟩ := st
    have hT : s.TypeIs (.ref z) "zip" := ⟨_, hz, rfl⟩
    refine wpAny_pyIter_slot hT F.slot_zip_iter (wpAny_call_entry F.slot_zip_iter hT F.entry_zip_iter ?_ (F.args_zip_iter_1 _))
    show wpAny _ _ (ret (.ref z)) _ _ s
    exact wpAny_pure ⟨_, rfl, "zip", _, hT, F.slot_zip_next.lookup, h⟩

/-- zip(t, u) of two tuples, walked by one name -/
def iZipTN (K : PySem.W.Frag) (ta : TA) : TI := fun σ H R => ta σ H fun vs H1 => ∃ a b xs ys, vs = [.ref a, .ref b] ∧ SqT K H1 a xs ∧ SqT K H1 b ys ∧ R (RZ.ItzT K a b) H1
theorem pi_zipTN {X : Cx} {e e2 : Expr} {ta : TA} {p pos px : Pos} {x : Str} (hg : Gl X "zip") (hm : X.mg "zip" = none) (ha : PA X [e, e2] ta)
    (hs : starEach [e, e2] X.env = (false, eval e X.env) :: starEach [e2] X.env := by rfl) (hpl : (backTo pos (starEach [e2] X.env)).any (·.1) = false := by rfl) :
    PI X (.Name x px) (.Call (.Name "zip" p) [e, e2] [] pos) (iZipTN X.K ta) := by
  refine ⟨fun pins s σ H R I h => ?_⟩
  refine Call_ (ld_blt I hg hm PyProof.Rows.boot_zip (PyProof.Rows.callWith_type1 (thn (ha.run pos pins s σ H _ I h) fun us s1 ⟨vs, H1, I1, r1, q1⟩ => ?_) hs hpl))
  obtain ⟨a, b, xs, ys, ex, hqx, hqy, q⟩ := q1
  subst ex
  cases r1 with
  | cons r rr =>
    cases rr with
    | cons r' rr =>
      cases rr
      cases r
      cases r'
      have fresh5 : ∀ c, c ∈ [s1.heap.objs.size + 4, s1.heap.objs.size + 2, s1.heap.objs.size + 3, s1.heap.objs.size, s1.heap.objs.size + 1] → FpOk X pins H1 c := fun c hcm => by
        have e' : c = s1.heap.objs.size + 4 ∨ c = s1.heap.objs.size + 2 ∨ c = s1.heap.objs.size + 3 ∨ c = s1.heap.objs.size ∨ c = s1.heap.objs.size + 1 := by simpa using hcm
        have hle : s1.heap.objs.size ≤ c := by
          rcases e' with z | z | z | z | z
          · rw [z]; exact Nat.le_add_right _ _
          · rw [z]; exact Nat.le_add_right _ _
          · rw [z]; exact Nat.le_add_right _ _
          · rw [z]; exact Nat.le_refl _
          · rw [z]; exact Nat.le_add_right _ _
        exact I1.fpOk hle (I1.hok.fresh hle)
      obtain ⟨its, rv, p1, _⟩ := I1.tuple hqx
      obtain ⟨its2, rv2, p2, _⟩ := I1.tuple hqy
      obtain ⟨o1, ho1, _⟩ := id p1
      obtain ⟨o2, ho2, _⟩ := id p2
      refine RZ.call_zipT (show s1.heap.IsTuple a its.toArray from p1) (show s1.heap.IsTuple b its2.toArray from p2) fun h' hz hTI hTO h1 h2 hsz hk => wpAny_pyIter_zip hz ?_
      have I2 : Inv X pins σ H1 { s1 with heap := h' } := I1.kept (t' := s1.toks) hk
      exact ⟨s1.heap.objs.size + 4, [s1.heap.objs.size + 4, s1.heap.objs.size + 2, s1.heap.objs.size + 3, s1.heap.objs.size, s1.heap.objs.size + 1], _, _, H1, rfl, I2, turn_zipTN (PySem.W.ktu_apart s1.heap.objs.size a b (Heap.lt_size ho1) (Heap.lt_size ho2)), ⟨⟨_, _, hz, .inl ⟨rfl, rfl⟩⟩, hTI, ⟨_, _, hTO⟩, h1, h2⟩, fresh5, q⟩

/-- enumerate(t) of a tuple -/
def iEnumT (K : PySem.W.Frag) (ta : TA) : TI := fun σ H R => ta σ H fun vs H1 => ∃ a xs, vs = [.ref a] ∧ SqT K H1 a xs ∧ R (IteT K a) H1
set_option maxHeartbeats 1000000 in
theorem meets_enum1 {v : Value} {o : Obj} {H : Heap → Prop} (B : Begins v o H) :
    Meets (Builtin.«enumerate.__new__» ⟨[.type "enumerate", v], []⟩) (fun _ R s => H s.heap ∧
      R (.ok (.ret (.ref (s.heap.push o).objs.size))) { s with heap := (s.heap.push o).push { cls := .type "enumerate", data := .fields #[.none, .bool false, .ref s.heap.objs.size, rawInt 0, .none, .none] } }) :=
  .of_wp fun prog w A R s h => by
    obtain ⟨hp, g, d, tk, os⟩ := s; obtain ⟨h1, h⟩ := h
    have hsub := sub_enumerate
    have q1 : ∀ {A' : Around} {E : Value → Shared → Prop} {Q : Value → Shared → Prop}, Q (.ref hp.objs.size) ⟨hp.push o, g, d, tk, os⟩ → wpAny (model prog w) A' (pyIter v) Q E ⟨hp, g, d, tk, os⟩ :=
      fun q => B.iter prog w _ _ ⟨hp, g, d, tk, os⟩ _ h1 q
    wp_walk using q1
    refine wpAny_stack_any fun st => wpAny_pure ?_
    split
    · rename_i c _ _ _ _ _
      cases (c == Value.type "enumerate")
      · wp_walk using q1
        exact ⟨_, rfl, h⟩
      · wp_walk using q1
        exact ⟨_, rfl, h⟩
    · wp_walk using q1
      exact ⟨_, rfl, h⟩
theorem enum1_begins {prog : Program} {w : World} {A : Around} {E : Value → Shared → Prop} {s : Shared} {v : Value} {o : Obj} {H : Heap → Prop} {Q : Value → Shared → Prop} (B : Begins v o H) (h1 : H s.heap)
    (h : ∀ h', IsEnum h' (s.heap.objs.size + 1) s.heap.objs.size 0 .none → h'.get? s.heap.objs.size = some o → h'.objs.size = s.heap.objs.size + 2 →
      (∀ b o, s.heap.get? b = some o → h'.get? b = some o) → Q (.ref (s.heap.objs.size + 1)) { s with heap := h' }) :
    wpAny (model prog w) A (call (.type "enumerate") [v]) Q E s := by
  refine callType_new F.called_enumerate (by decide) (F.typeCall_enumerate_1 _) (F.newCall_enumerate_1 _) (fun obj => F.args_object_init_2 obj _) F.entry_enumerate_new
    (meets_enum1 B) ⟨h1, ?_⟩
  have hz : (s.heap.push o).objs.size = s.heap.objs.size + 1 := Heap.size_push ..
  show _ ∧ _
  rw [hz]
  have he : IsEnum ((s.heap.push o).push { cls := .type "enumerate", data := .fields #[.none, .bool false, .ref s.heap.objs.size, rawInt 0, .none, .none] }) (s.heap.objs.size + 1) s.heap.objs.size 0 .none := by
    have := Heap.get?_push_size (s.heap.push o) (o := { cls := .type "enumerate", data := .fields #[.none, .bool false, .ref s.heap.objs.size, rawInt 0, .none, .none] }) rfl
    rw [hz] at this; exact this
  exact ⟨⟨_, he, rfl⟩, h _ he (Heap.get?_push_of_some _ (Heap.get?_push_size _ B.free)) (by rw [Heap.size_push, hz]) fun b o x => Heap.get?_push_of_some _ (Heap.get?_push_of_some _ x)⟩
theorem pi_enumT {X : Cx} {e : Expr} {ta : TA} {p pos tpos : Pos} {elts : List Expr} {kk : Nat} (hg : Gl X "enumerate") (hm : X.mg "enumerate" = none) (ha : PA X [e] ta) (hs : starEach [e] X.env = [(false, eval e X.env)] := by rfl) :
    PI X (.Tuple elts kk tpos) (.Call (.Name "enumerate" p) [e] [] pos) (iEnumT X.K ta) := by
  refine ⟨fun pins s σ H R I h => ?_⟩
  refine Call_ (ld_blt I hg hm boot_enumerate (PyProof.Rows.callWith_type1 (thn (ha.run pos pins s σ H _ I h) fun us s1 ⟨vs, H1, I1, r1, q1⟩ => ?_) hs rfl))
  obtain ⟨a, xs, ex, hq, q⟩ := q1
  subst ex
  cases r1 with
  | cons r rr =>
    cases rr
    cases r
    obtain ⟨its, rv, p', hz⟩ := I1.tuple hq
    have hlt : a < s1.heap.objs.size := by obtain ⟨o, ho, _⟩ := id p'; exact Heap.lt_size ho
    refine enum1_begins (begins_tuple a its.toArray) (show s1.heap.IsTuple a its.toArray from p') fun h' he hit hsz hk => wpAny_pyIter_enum he ?_
    have I2 : Inv X pins σ H1 { s1 with heap := h' } := I1.kept (t' := s1.toks) hk
    refine ⟨s1.heap.objs.size + 1, [s1.heap.objs.size + 1, s1.heap.objs.size], _, _, H1, rfl, I2, turn_enumT a (s1.heap.objs.size + 1) s1.heap.objs.size (Nat.ne_of_lt (Nat.lt_succ_of_lt hlt)) (Nat.ne_of_lt hlt), ⟨⟨.none, he⟩, ⟨_, hit, rfl, rfl⟩, Nat.succ_ne_self _⟩, fun b hb => ?_, q⟩
    have e' : b = s1.heap.objs.size + 1 ∨ b = s1.heap.objs.size := by simpa using hb
    have hle : s1.heap.objs.size ≤ b := by
      rcases e' with z | z
      · rw [z]; exact Nat.le_add_right _ _
      · rw [z]; exact Nat.le_refl _
    exact I1.fpOk hle (I1.hok.fresh hle)

/-! ### enumerate over a dict that stands still -/
section
variable {prog : Program} {w : World} {A : Around} {E : Value → Shared → Prop} {s : Shared}
theorem nextOf_key_item {it d : Addr} {i n ep : Nat} {od : Obj} {es : Array DictEntry} {en : DictEntry} {Q : Value → Shared → Prop} (hit : s.heap.IsKeyIter it d i n ep) (hod : s.heap.get? d = some od) (hdd : od.data = .dict es ep)
    (hsz : es.size = n) (hx : es[i]? = some en) (hQ : ∀ h', h'.IsKeyIter it d (i + 1) n ep → Heap.SameBut it s.heap h' → Q en.key { s with heap := h' }) : wpAny (model prog w) A (Builtin.SmallTypes.nextOf (.ref it)) Q E s := by
  obtain ⟨o, ho, hc, hd⟩ := id hit
  unfold Builtin.SmallTypes.nextOf
  refine wpAny_bind (wpAny_callSpecial?_slot (name := Str.ofString "__next__") hit.typeIs F.slot_dict_keyiterator_next
    (wpAny_call_entry F.slot_dict_keyiterator_next hit.typeIs F.entry_dict_keyiterator_next ?_ (F.args_dict_keyiterator_next_1 _)))
  refine wpAny_bind (wpAny_pure ?_)
  refine wpAny_bind ?_
  refine wpAny_bind ?_
  first | refine wpAny_bind (wpAny_typeNameOfWhole_keyiter hit.typeIs (wpAny_pure ?_)) | refine wpAny_bind (wpAny_typeNameOf_keyiter hit.typeIs (wpAny_pure ?_))
  refine wpAny_bind (wpAny_fieldsOf ho hd ?_)
  have hown : Builtin.Dict_items.ownsTuple "dict_keyiterator" = false := by decide
  simp only [hown, Bool.false_eq_true, if_false]
  show wpAny _ _ (if (Value.ref d == Value.none) = true then _ else _) _ _ s
  rw [if_neg (show ¬ ((Value.ref d == Value.none) = true) from Bool.false_ne_true)]
  refine wpAny_bind (wpAny_pure ?_)
  refine wpAny_bind (wpAny_dictEntries hod hdd ?_)
  rw [if_neg (by rw [hsz]; simp)]
  refine wpAny_bind (wpAny_pure ?_)
  refine wpAny_bind (wpAny_dictEpoch hod hdd ?_)
  rw [if_neg (by simp)]
  refine wpAny_pure ?_
  obtain ⟨hlt', hen⟩ := Array.getElem?_eq_some_iff.mp hx
  simp only [show ¬ ((i : Int) < 0) from by omega, if_false, Int.toNat_natCast, Array.getElem?_eq_getElem hlt']
  refine wpAny_bind ?_
  first | refine wpAny_bind (wpAny_typeNameOfWhole_keyiter hit.typeIs (wpAny_pure ?_)) | refine wpAny_bind (wpAny_typeNameOf_keyiter hit.typeIs (wpAny_pure ?_))
  refine wpAny_bind (wpAny_isOneOf_keyiter hit.typeIs ?_)
  show wpAny _ _ (setField (.ref it) 1 (rawInt ((i : Int) + 1)) >>= _) _ _ s
  refine wpAny_bind (wpAny_setField ho hd (by simp) ?_)
  have hit' : (s.heap.update it (Obj.mapFields (·.setIfInBounds 1 (rawInt ((i : Int) + 1))))).IsKeyIter it d (i + 1) n ep :=
    ⟨_, Heap.get?_update_self _ ho (Obj.isFreed_of_fields (Obj.data_mapFields hd _)), (Obj.cls_mapFields ..).trans hc, by rw [Obj.data_mapFields hd]; simp [rawInt]⟩
  refine wpAny_bind (wpAny_holding ?_)
  refine wpAny_bind (wpAny_isOneOf_keyiter (s := { s with heap := s.heap.update it (Obj.mapFields (·.setIfInBounds 1 (rawInt ((i : Int) + 1)))) }) hit'.typeIs ?_)
  show wpAny _ _ (pure es[i].key) _ _ _
  rw [hen]
  exact wpAny_pure (wpAny_pure ⟨_, rfl, wpAny_pure (hQ _ hit' (Heap.SameBut.update ..))⟩)
theorem nextOf_key_end {it d : Addr} {i n ep : Nat} {od : Obj} {es : Array DictEntry} {Q : Value → Shared → Prop} (hh : A.handled = none) (hit : s.heap.IsKeyIter it d i n ep) (hod : s.heap.get? d = some od) (hdd : od.data = .dict es ep)
    (hsz : es.size = n) (hge : n ≤ i) (hE : ∀ h' e, Heap.ExtBut it s.heap h' → (∃ o, h'.get? e = some o ∧ o.cls = .type "StopIteration") → E (.ref e) { s with heap := h' }) : wpAny (model prog w) A (Builtin.SmallTypes.nextOf (.ref it)) Q E s := by
  obtain ⟨o, ho, hc, hd⟩ := id hit
  unfold Builtin.SmallTypes.nextOf
  refine wpAny_bind (wpAny_callSpecial?_slot (name := Str.ofString "__next__") hit.typeIs F.slot_dict_keyiterator_next
    (wpAny_call_entry F.slot_dict_keyiterator_next hit.typeIs F.entry_dict_keyiterator_next ?_ (F.args_dict_keyiterator_next_1 _)))
  refine wpAny_bind (wpAny_pure ?_)
  refine wpAny_bind ?_
  refine wpAny_bind ?_
  first | refine wpAny_bind (wpAny_typeNameOfWhole_keyiter hit.typeIs (wpAny_pure ?_)) | refine wpAny_bind (wpAny_typeNameOf_keyiter hit.typeIs (wpAny_pure ?_))
  refine wpAny_bind (wpAny_fieldsOf ho hd ?_)
  have hown : Builtin.Dict_items.ownsTuple "dict_keyiterator" = false := by decide
  simp only [hown, Bool.false_eq_true, if_false]
  show wpAny _ _ (if (Value.ref d == Value.none) = true then _ else _) _ _ s
  rw [if_neg (show ¬ ((Value.ref d == Value.none) = true) from Bool.false_ne_true)]
  refine wpAny_bind (wpAny_pure ?_)
  refine wpAny_bind (wpAny_dictEntries hod hdd ?_)
  rw [if_neg (by rw [hsz]; simp)]
  refine wpAny_bind (wpAny_pure ?_)
  refine wpAny_bind (wpAny_dictEpoch hod hdd ?_)
  rw [if_neg (by simp)]
  refine wpAny_pure ?_
  have hge' : es.size ≤ i := by rw [hsz]; exact hge
  simp only [show ¬ ((i : Int) < 0) from by omega, if_false, Int.toNat_natCast, Array.getElem?_eq_none hge']
  refine wpAny_bind ?_
  first | refine wpAny_bind (wpAny_typeNameOfWhole_keyiter hit.typeIs (wpAny_pure ?_)) | refine wpAny_bind (wpAny_typeNameOf_keyiter hit.typeIs (wpAny_pure ?_))
  show wpAny _ _ (setField (.ref it) 0 .none >>= _) _ _ s
  refine wpAny_bind (wpAny_setField ho hd (by simp) ?_)
  show wpAny _ _ (newExc (.type "StopIteration") [] >>= _) _ _ _
  refine wpAny_bind ?_
  simp only [newExc, newTuple]
  refine wpAny_bind (wpAny_newObj_type ?_ (by size_fits))
  refine wpAny_bind (m := firstArgMember _ _) (wpAny_of_eq (a := Value.none) (by first | rfl | (simp only [firstArgMember]; rfl)) ?_)
  refine wpAny_newObj_type ?_ (by size_fits)
  simp only [raiseNew]
  refine wpAny_bind (wpAny_handled ?_)
  rw [show A.in1.handled = none from hh]
  refine wpAny_bind (wpAny_pure (wpAny_throw ?_))
  exact hE _ _ (((Heap.SameBut.update ..).extBut.push _).push _) ⟨_, Heap.get?_push_size _ rfl, rfl⟩

end
theorem drawsKeys {prog : Program} {w : World} {A : Around} (hh : A.handled = none) (it d : Addr) (hne : d ≠ it) (o : Obj) (es : Array DictEntry) (ep : Nat) (hdd : o.data = .dict es ep) :
    Draws prog w A it [it, d] es.size (fun i v => ∃ en, es[i]? = some en ∧ v = en.key) (fun i h => h.IsKeyIter it d i es.size ep ∧ h.get? d = some o) where
  live := fun _ _ st => let ⟨o, ho, _⟩ := st.1; ⟨o, ho⟩
  frame := fun _ _ _ st hk => ⟨st.1.at fun o e => hk it (by simp) o e, hk d (by simp) _ st.2⟩
  item := fun i s Q E hi st hQ => by
    refine nextOf_key_item st.1 st.2 hdd rfl (en := es[i]) (by simp [hi]) fun h' hit' hs' => ?_
    exact hQ _ h' s.toks ⟨es[i], by simp [hi], rfl⟩ ⟨hit', hs'.extBut _ _ hne st.2⟩ hs'
  done := fun s Q E st hE => nextOf_key_end hh st.1 st.2 hdd rfl (Nat.le_refl _) hE
theorem beginsKeys (d : Addr) (o : Obj) (es : Array DictEntry) (ep : Nat) (hd : (d == sysModules) = false) (hc : o.ExactDict) (hdd : o.data = .dict es ep) :
    Begins (.ref d) { cls := .type "dict_keyiterator", data := .fields #[.ref d, .int 0 0, .int es.size 0, .int ep 0] } fun h => h.get? d = some o where
  iter := fun prog w A E s Q ho h => iter_keys hd ho hc hdd h
  keeps := fun h h' x hk => hk d o x
  free := rfl
def IteK (d : Addr) (o : Obj) (kvs : List (Key × V)) : It :=
  ⟨fun i H => H d = some (.frz o (.dK kvs)) ∧ i < kvs.length, fun i H v H' => ∃ T k u, v = .ref T ∧ H T = none ∧ kvs[i]? = some (k, u) ∧ H' = upd H T (.tup [.int (i : Nat), kV k]), fun i H => H d = some (.frz o (.dK kvs)) ∧ kvs.length ≤ i⟩
theorem turn_enumK {P : Program} {w : World} {K : PySem.W.Frag} {elts : List Expr} {kk : Nat} {tpos : Pos} {kvs : List (Key × V)} (d e it : Addr) (o : Obj) (es : Array DictEntry) (ep : Nat) (hod : o.data = .dict es ep) (hsz : es.size = kvs.length) (hde : d ≠ e) (hdi : d ≠ it) :
    Turn P w K (.Tuple elts kk tpos) (IteK d o kvs) [e, it] e (fun i h => (∃ old, IsEnum h e it ((i : Nat) : Int) old) ∧ h.IsKeyIter it d i es.size ep ∧ e ≠ it) where
  mem := by simp
  obj := fun i h st b hb => by
    obtain ⟨⟨old, he⟩, ⟨oi, ho, hc, hd⟩, _⟩ := st
    have e' : b = e ∨ b = it := by simpa using hb
    rcases e' with z | z
    · rw [z]; exact ⟨_, he, fun v q => nomatch q⟩
    · rw [z]; exact ⟨oi, ho, fun v q => by rw [hd] at q; cases q⟩
  keep := fun i h h' st k => let ⟨⟨old, he⟩, hi, hne⟩ := st; ⟨⟨old, k e (by simp) _ he⟩, hi.at fun o q => k it (by simp) o q, hne⟩
  item := by
    intro X hP hw hK hc i pins s σ H E I hf st hg
    subst hP hw hK
    obtain ⟨⟨old, he⟩, hit, hne⟩ := st
    obtain ⟨hd, hi⟩ := hg
    obtain ⟨hs, hgd, hx, es', ep', vs, hdt, hsz', kv, hm⟩ := I.frzK hd
    obtain ⟨rfl, rfl⟩ : es' = es ∧ ep' = ep := by
      rw [hod] at hdt
      cases hdt
      exact ⟨rfl, rfl⟩
    have hel : e < s.heap.objs.size := Heap.lt_size he
    have hil : it < s.heap.objs.size := by obtain ⟨_, q, _⟩ := hit; exact Heap.lt_size q
    have hlt : i < es'.size := by omega
    have D := drawsKeys (prog := X.prog) (w := X.w) (A := X.A.in1) (show X.A.in1.handled = none from I.ok.hd hc) it d hdi o es' ep' hod
    have hef : e ∉ [it, d] := fun q => by
      have q' : e = it ∨ e = d := by simpa using q
      rcases q' with q' | q'
      · exact hne q'
      · exact hde q'.symm
    obtain ⟨⟨k, v⟩, hkv⟩ : ∃ p, kvs[i]? = some p := ⟨kvs[i], List.getElem?_eq_getElem hi⟩
    refine wpAny_pyNext_enum_itemC D he ⟨hit, hgd⟩ hlt hne hef fun x' h' tk hP ho hst hT hsz2 hk => ?_
    obtain ⟨en, hen, rfl⟩ := hP
    have ru : RelV (kV k) en.key := by
      obtain ⟨u, hu, _⟩ := kv_get kv hkv
      obtain ⟨o2, es2, ho2, _, hd2, _, hp, _⟩ := hm
      rw [hgd] at ho2
      cases ho2
      rw [hod] at hd2
      cases hd2
      exact relV_key (hp.get? (e := en) (by rw [Array.getElem?_toList]; exact hen) hu).1
    refine ⟨_, rfl, wpAny_letOwnedTupleGo_enum (s := { s with heap := h', toks := tk + 1 }) ho fun h'' he' sb => ?_⟩
    have hT2 : h''.get? s.heap.objs.size = some { cls := .type "tuple", data := .seq #[.int i tk, en.key] } := (sb.2 _ (Nat.ne_of_gt hel)).trans hT
    have new : ObjOk X.prog X.w (upd H s.heap.objs.size (.tup [.int (i : Nat), kV k])) h'' s.heap.objs.size (.tup [.int (i : Nat), kV k]) :=
      ⟨by show 2 ≤ sizeLine; decide, [.int i tk, en.key], .cons ⟨_, rfl⟩ (.cons ru .nil), ⟨_, hT2, rfl, _, rfl⟩⟩
    have I1 : Inv X pins σ (upd H s.heap.objs.size (.tup [.int (i : Nat), kV k])) { s with heap := h'', toks := tk + 1 } :=
      I.turnedNew (ch := [e, it]) (fun b ob hb q => (sb.2 b (fun z => hb (by simp [z]))).trans (hk b ob (fun z => hb (by simp [z])) (fun z => hb (by simp [z])) q)) hf (Nat.le_refl _) new
    refine ⟨.ref s.heap.objs.size, _, I1, rfl, ⟨_, k, v, rfl, I.hok.fresh (Nat.le_refl _), hkv, rfl⟩, ⟨⟨en.key, ?_⟩, hst.1.at fun o q => (sb.2 it (Ne.symm hne)).trans q, hne⟩, fun b hb => ?_⟩
    · have e1 : ((i + 1 : Nat) : Int) = (i : Int) + 1 := by omega
      rw [e1]; exact he'
    · have hb' : b < s.heap.objs.size := by
        have e' : b = e ∨ b = it := by simpa using hb
        rcases e' with z | z
        · rw [z]; exact hel
        · rw [z]; exact hil
      rw [upd_ne (Nat.ne_of_lt hb')]
      exact (hf b hb).1
  done := by
    intro X hP hw hK hc i pins s σ H E I hf st hg
    subst hP hw hK
    obtain ⟨⟨old, he⟩, hit, hne⟩ := st
    obtain ⟨hd, hi⟩ := hg
    obtain ⟨hs, hgd, hx, es', ep', vs, hdt, hsz', kv, hm⟩ := I.frzK hd
    obtain ⟨rfl, rfl⟩ : es' = es ∧ ep' = ep := by
      rw [hod] at hdt
      cases hdt
      exact ⟨rfl, rfl⟩
    have hT : s.TypeIs (.ref e) "enumerate" := ⟨_, he, rfl⟩
    unfold pyNext
    refine wpAny_bind (wpAny_attempt (wpAny_callSpecial?_slot (name := Str.ofString "__next__") hT F.slot_enumerate_next
      (wpAny_call_entry F.slot_enumerate_next hT F.entry_enumerate_next ?_ (F.args_enumerate_next_1 _))))
    show wpAny _ _ (field (.ref e) 2 >>= _) _ _ _
    refine wpAny_bind (wpAny_field he rfl (x := .ref it) rfl ?_)
    refine wpAny_bind (nextOf_key_end (show X.A.in1.handled = none from I.ok.hd hc) hit hgd hod rfl (by omega) fun h' x hx' hcl => ?_)
    obtain ⟨f0, f1, f2, f3, f4, f5⟩ := hf it (by simp)
    exact stop_end hcl ⟨rfl, I.turned (t' := s.toks) (fun b o hb q => hx' b o hb q) f0 f1 f3 f4 f5⟩
  self := fun A i s Q E st h => let ⟨⟨_, he⟩, _⟩ := st; wpAny_pyIter_enum he h
def iEnumK (ta : TA) : TI := fun σ H R => ta σ H fun vs H1 => ∃ d o kvs, vs = [.ref d] ∧ H1 d = some (.frz o (.dK kvs)) ∧ R (IteK d o kvs) H1
theorem pi_enumK {X : Cx} {e : Expr} {ta : TA} {p pos tpos : Pos} {elts : List Expr} {kk : Nat} (hg : Gl X "enumerate") (hm : X.mg "enumerate" = none) (ha : PA X [e] ta) (hs : starEach [e] X.env = [(false, eval e X.env)] := by rfl) :
    PI X (.Tuple elts kk tpos) (.Call (.Name "enumerate" p) [e] [] pos) (iEnumK ta) := by
  refine ⟨fun pins s σ H R I h => ?_⟩
  refine Call_ (ld_blt I hg hm boot_enumerate (PyProof.Rows.callWith_type1 (thn (ha.run pos pins s σ H _ I h) fun us s1 ⟨vs, H1, I1, r1, q1⟩ => ?_) hs rfl))
  obtain ⟨d, o, kvs, ex, hq, q⟩ := q1
  subst ex
  cases r1 with
  | cons r rr =>
    cases rr
    cases r
    obtain ⟨hsm, hgd, hx, es, ep, vs, hdt, hsz', kv, hm⟩ := I1.frzK hq
    have hlt : d < s1.heap.objs.size := Heap.lt_size hgd
    refine enum1_begins (beginsKeys d o es ep hsm hx hdt) hgd fun h' he hit hsz hk => wpAny_pyIter_enum he ?_
    have I2 : Inv X pins σ H1 { s1 with heap := h' } := I1.kept (t' := s1.toks) hk
    refine ⟨s1.heap.objs.size + 1, [s1.heap.objs.size + 1, s1.heap.objs.size], _, _, H1, rfl, I2, turn_enumK d (s1.heap.objs.size + 1) s1.heap.objs.size o es ep hdt hsz' (Nat.ne_of_lt (Nat.lt_succ_of_lt hlt)) (Nat.ne_of_lt hlt), ⟨⟨.none, he⟩, ⟨_, hit, rfl, rfl⟩, Nat.succ_ne_self _⟩, fun b hb => ?_, q⟩
    have e' : b = s1.heap.objs.size + 1 ∨ b = s1.heap.objs.size := by simpa using hb
    have hle : s1.heap.objs.size ≤ b := by
      rcases e' with z | z
      · rw [z]; exact Nat.le_add_right _ _
      · rw [z]; exact Nat.le_refl _
    exact I1.fpOk hle (I1.hok.fresh hle)
end XR

-- text: XSlice
set_option linter.all false
set_option maxRecDepth 100000
namespace XR
open PySem PySem.Spec PyProof.Rows L2
/-! ### l[::2] of a list of three -/
theorem pick_two (x y z : Value) : slicePick #[x, y, z] none none (some 2) = #[x, z] := by
  with_unfolding_all rfl
def tTwo3 (K : PySem.W.Frag) (te : TE) : TE := fun σ H Q => te σ H fun x H1 => ∃ a u v w, x = .ref a ∧ SqL K H1 a [u, v, w] ∧ ∀ p, H1 p = none → Q (.ref p) (upd H1 p (.lst [u, w]))
theorem pe_two3 {X : Cx} {e : Expr} {te : TE} {k : Nat} {p1 p3 pos : Pos} (he : PE X e te) : PE X (.Subscript e (.Slice none none (some (.Constant (.int 2) k p1)) p3) pos) (tTwo3 X.K te) := by
  refine ⟨fun pins s σ H Q I h => ?_⟩
  refine Subscript_ (thn (he.run pins s σ H _ I h) fun v s1 ⟨x, H1, I1, r1, q1⟩ => ?_)
  obtain ⟨a, u, v, w, ex, hx, q⟩ := q1
  subst ex
  cases r1
  have hst : PO X (some (.Constant (.int 2) k p1)) (tPart (tC (.int 2))) := po_some pe_int
  refine wpAny_Slice (thn (po_none.run pins s1 σ H1 (fun o H2 => o = none ∧ H2 = H1) I1 ⟨rfl, rfl⟩) fun vl s2 ⟨l, H2, I2, pl, el, e2⟩ => ?_)
  subst el e2
  refine thn (po_none.run pins s2 σ H2 (fun o H3 => o = none ∧ H3 = H2) I2 ⟨rfl, rfl⟩) fun vu s3 ⟨u', H3, I3, pu, eu, e3⟩ => ?_
  subst eu e3
  refine thn (hst.run pins s3 σ H3 (fun o H4 => o = some 2 ∧ H4 = H3) I3 ⟨2, rfl, rfl, rfl⟩) fun vs s4 ⟨o, H4, I4, ps, eo, e4⟩ => ?_
  subst eo e4
  have I5 : Inv X pins σ H4 { s4 with heap := s4.heap.push { cls := .type "slice", data := .fields #[vl, vu, vs] } } := I4.kept (t' := s4.toks) fun b ob q => Heap.get?_push_of_some _ q
  obtain ⟨its, r, ht, hz⟩ := I5.list hx
  have hlen := r.length
  show wpAny (model X.prog X.w) X.A (subscriptTail e (.Slice none none (some (.Constant (.int 2) k p1)) p3) (.ref a) (.ref s4.heap.objs.size)) (EP X pins σ Q) X.xe { s4 with heap := s4.heap.push { cls := .type "slice", data := .fields #[vl, vu, vs] } }
  refine tail_any (ops := [.ref a, .ref s4.heap.objs.size]) ht.isList.typeIs (PySem.slot_list_getitem.lookup) ?_ (by with_unfolding_all rfl)
  refine wpAny_getItem_list_slice ht.isList (Heap.IsSliceOf.new _ vl vu vs) pl pu ps (by decide) ?_ (by rw [List.size_toArray]; omega)
  cases r with
  | cons ru r =>
    cases r with
    | cons rv r =>
      cases r with
      | cons rw' r =>
        cases r
        rw [pick_two]
        refine ⟨.ref _, _, I5.laid (t' := s4.toks) (o := .lst [u, w]) (fun b ob q => Heap.get?_push_of_some _ q) (Nat.le_refl _) ?_, rfl, q _ (I5.hok.fresh (Nat.le_refl _))⟩
        exact ⟨by show 2 ≤ sizeLine; decide, [_, _], 0, .cons ru (.cons rw' .nil), Heap.get?_push_size _ rfl⟩
end XR

-- text: DBase
set_option linter.all false
set_option maxRecDepth 100000
/-! data at a value, seen past the objects of a set N that may change -/
namespace DB
open PySem PySem.Spec PyProof.Rows L2
section
open Classical
/-- the heap without the objects of N -/
noncomputable def hide (N : Addr → Prop) (H : Hp) : Hp := fun a => if N a then none else H a
end
theorem hide_off {N : Addr → Prop} {H : Hp} {a : Addr} (h : ¬ N a) : hide N H a = H a := if_neg h
theorem hide_on {N : Addr → Prop} {H : Hp} {a : Addr} (h : N a) : hide N H a = none := if_pos h
theorem hide_some {N : Addr → Prop} {H : Hp} {a : Addr} {o : HO} (h : hide N H a = some o) : ¬ N a ∧ H a = some o := by
  by_cases q : N a
  · rw [hide_on q] at h; cases h
  · rw [hide_off q] at h; exact ⟨q, h⟩
theorem hide_same {N : Addr → Prop} {H : Hp} : Same (hide N H) H := fun a o e => (hide_some e).2
/-- N's objects stand -/
def Tr (N : Addr → Prop) (H : Hp) : Prop := ∀ a, N a → H a ≠ none
def no0 : Addr → Prop := fun _ => False
theorem tr0 (H : Hp) : Tr no0 H := fun _ h => h.elim
theorem hide0 (H : Hp) : hide no0 H = H := funext fun a => hide_off (fun h => h)
theorem Tr.off {N : Addr → Prop} {H : Hp} (t : Tr N H) {p : Addr} (h : H p = none) : ¬ N p := fun q => t p q h
theorem Tr.same {N : Addr → Prop} {H H' : Hp} (t : Tr N H) (e : Same H H') : Tr N H' := fun a q h => by
  cases r : H a with
  | none => exact t a q r
  | some o => rw [e a o r] at h; cases h
theorem hide_mono {N : Addr → Prop} {H H' : Hp} (e : Same H H') : Same (hide N H) (hide N H') := fun a o q => by
  obtain ⟨n, q⟩ := hide_some q
  rw [hide_off n]
  exact e a o q
theorem hide_upd {N : Addr → Prop} {H : Hp} {p : Addr} {o : HO} (h : ¬ N p) : hide N (upd H p o) p = some o := by
  rw [hide_off h, upd_same]
theorem same_new {H : Hp} {p : Addr} (h : H p = none) (o : HO) : Same H (upd H p o) := fun b u q => by rw [upd_ne (ne_of_none q h)]; exact q
theorem same_upd {H H' : Hp} {p : Addr} (h : H p = none) (e : Same H H') (o : HO) : Same H (upd H' p o) := fun b u q => by rw [upd_ne (ne_of_none q h)]; exact e b u q
/-- N and one more -/
def plus (N : Addr → Prop) (D : Addr) : Addr → Prop := fun a => a = D ∨ N a
theorem plus_same {N : Addr → Prop} {H H' : Hp} {D : Addr} (h : H D = none) (e : Same H H') : Same (hide N H) (hide (plus N D) H') := fun a o q => by
  obtain ⟨n, q⟩ := hide_some q
  have : ¬ plus N D a := fun z => z.elim (fun z => ne_of_none q h z) n
  rw [hide_off this]
  exact e a o q
theorem plus_down {N : Addr → Prop} {H : Hp} {D : Addr} : Same (hide (plus N D) H) (hide N H) := fun a o q => by
  obtain ⟨n, q⟩ := hide_some q
  rw [hide_off (fun z => n (Or.inr z))]
  exact q
theorem plus_upd {N : Addr → Prop} {H : Hp} {D : Addr} {o : HO} : Same (hide (plus N D) H) (hide (plus N D) (upd H D o)) := fun a u q => by
  obtain ⟨n, q⟩ := hide_some q
  rw [hide_off n, upd_ne (fun z => n (Or.inl z))]
  exact q
theorem Same.tupL {K : PySem.W.Frag} {H H' : Hp} {a : Addr} {xs : List V} (e : Same H H') (h : SqT K H a xs) : SqT K H' a xs := by
  rcases h with (h | ⟨o, h⟩) | h
  · exact .inl (.inl (e _ _ h))
  · exact .inl (.inr ⟨o, e _ _ h⟩)
  · exact .inr h
section
variable {K : PySem.W.Frag} {H H' : Hp}
mutual
theorem Dp.same (e : Same H H') : ∀ {v : V} {d : PyData}, Dp K H v d → Dp K H' v d
  | _, _, .non => .non
  | _, _, .bl b => .bl b
  | _, _, .int i => .int i
  | _, _, .str x => .str x
  | _, _, .lst h a => .lst (e.seq h) (DpAll.same e a)
  | _, _, .tup h a => .tup (Same.tupL e h) (DpAll.same e a)
theorem DpAll.same (e : Same H H') : ∀ {vs : List V} {ds : List PyData}, DpAll K H vs ds → DpAll K H' vs ds
  | _, _, .nil => .nil
  | _, _, .cons h a => .cons (Dp.same e h) (DpAll.same e a)
end
theorem DpAll.length : ∀ {vs : List V} {ds : List PyData}, DpAll K H vs ds → vs.length = ds.length
  | _, _, .nil => rfl
  | _, _, .cons _ a => by rw [List.length_cons, List.length_cons, DpAll.length a]
theorem DpAll.get : ∀ {vs : List V} {ds : List PyData} {i : Nat} {v : V}, DpAll K H vs ds → vs[i]? = some v → ∃ d, ds[i]? = some d ∧ Dp K H v d
  | _, _, i, v, .nil, h => by simp at h
  | _, _, 0, v, .cons q a, h => by
    have e := Option.some.inj (show some _ = some v from h)
    subst e
    exact ⟨_, rfl, q⟩
  | _, _, i + 1, v, .cons q a, h => DpAll.get (i := i) a (by simpa using h)
theorem DpAll.get' : ∀ {vs : List V} {ds : List PyData} {i : Nat} {d : PyData}, DpAll K H vs ds → ds[i]? = some d → ∃ v, vs[i]? = some v ∧ Dp K H v d
  | _, _, i, v, .nil, h => by simp at h
  | _, _, 0, v, .cons q a, h => by
    have e := Option.some.inj (show some _ = some v from h)
    subst e
    exact ⟨_, rfl, q⟩
  | _, _, i + 1, v, .cons q a, h => DpAll.get' (i := i) a (by simpa using h)
theorem DpAll.app : ∀ {vs ws : List V} {ds es : List PyData}, DpAll K H vs ds → DpAll K H ws es → DpAll K H (vs ++ ws) (ds ++ es)
  | _, _, _, _, .nil, b => b
  | _, _, _, _, .cons q a, b => .cons q (DpAll.app a b)
theorem DpAll.of_get : ∀ {vs : List V} {ds : List PyData}, vs.length = ds.length → (∀ (i : Nat) (v : V) (d : PyData), vs[i]? = some v → ds[i]? = some d → Dp K H v d) → DpAll K H vs ds
  | [], [], _, _ => .nil
  | v :: vs, d :: ds, hl, h => .cons (h 0 v d rfl rfl) (DpAll.of_get (by simpa using hl) fun i v' d' a b => h (i + 1) v' d' (by simpa using a) (by simpa using b))
  | [], _ :: _, hl, _ => by simp at hl
  | _ :: _, [], hl, _ => by simp at hl
theorem DpAll.drop {vs : List V} {ds : List PyData} (n : Nat) (h : DpAll K H vs ds) : DpAll K H (vs.drop n) (ds.drop n) := by
  induction n generalizing vs ds with
  | zero => exact h
  | succ n ih =>
    cases h with
    | nil => exact .nil
    | cons q a => exact ih a
theorem DpAll.bls {bs : List Bool} : ∀ {vs : List V}, DpAll K H vs (bs.map PyData.bool) → vs = bs.map V.bl := by
  induction bs with
  | nil => intro vs h; cases h; rfl
  | cons b bs ih =>
    intro vs h
    cases h with
    | cons q a => cases q; rw [ih a]; rfl
theorem DpAll.ints {ns : List Int} : ∀ {vs : List V}, DpAll K H vs (ns.map PyData.int) → vs = ns.map V.int := by
  induction ns with
  | nil => intro vs h; cases h; rfl
  | cons b bs ih =>
    intro vs h
    cases h with
    | cons q a => cases q; rw [ih a]; rfl
theorem DpAll.strs {ns : List Str} : ∀ {vs : List V}, DpAll K H vs (ns.map PyData.str) → vs = ns.map V.str := by
  induction ns with
  | nil => intro vs h; cases h; rfl
  | cons b bs ih =>
    intro vs h
    cases h with
    | cons q a => cases q; rw [ih a]; rfl
theorem DpAll.of_strs (K : PySem.W.Frag) (H : Hp) : ∀ (ns : List Str), DpAll K H (ns.map V.str) (ns.map PyData.str)
  | [] => .nil
  | n :: ns => .cons (.str n) (DpAll.of_strs K H ns)
theorem DpAll.of_ints (K : PySem.W.Frag) (H : Hp) : ∀ (ns : List Int), DpAll K H (ns.map V.int) (ns.map PyData.int)
  | [] => .nil
  | n :: ns => .cons (.int n) (DpAll.of_ints K H ns)
end

/-! ### the type of data -/
def tn : PyData → String
  | .none => "NoneType" | .bool _ => "bool" | .int _ => "int" | .str _ => "str" | .list _ => "list" | .tuple _ => "tuple" | .dict _ => "dict"
theorem Dp.ty {K : PySem.W.Frag} {H : Hp} : ∀ {v : V} {d : PyData}, Dp K H v d → TyX K H v (.type (tn d))
  | _, _, .non => .base .non
  | _, _, .bl b => .base (.bl b)
  | _, _, .int i => .base (.int i)
  | _, _, .str x => .base (.str x)
  | _, _, .lst (.inl (.inl h)) _ => .base (.lst h)
  | _, _, .lst (.inl (.inr ⟨o, h⟩)) _ => .base (.frz h)
  | _, _, .lst (.inr ⟨o, its, n, h, c, _⟩) _ => .kList h c
  | _, _, .tup (.inl (.inl h)) _ => .base (.tup h)
  | _, _, .tup (.inl (.inr ⟨o, h⟩)) _ => .fTuple h
  | _, _, .tup (.inr ⟨o, its, n, h, c, _⟩) _ => .kTuple h c
/-- isinstance(x, T) -/
theorem isi1 {K : PySem.W.Frag} {H : Hp} {v : V} {d : PyData} {T : String} {r : Bool} {Q : VK} (h : Dp K H v d) (hk : kitB (tn d) T = some r) (q : Q (.bl r) H) : rIsi K [v, .ty T] H Q :=
  ⟨v, .ty T, .type (tn d), .type T, r, rfl, .ty T, Dp.ty h, kit_ty hk, q⟩
def kitBs (t : String) : List String → Option Bool
  | [] => some false
  | c :: r => match kitB t c with
    | some true => some true
    | some false => kitBs t r
    | none => none
theorem kitAny_bs {K : PySem.W.Frag} {t : String} : ∀ {cs : List String} {r : Bool}, kitBs t cs = some r → PySem.W.kitAny K (.type t) (cs.map Value.type) = some r
  | [], r, h => h
  | c :: cs, r, h => by
    unfold kitBs at h
    cases e : kitB t c with
    | none => rw [e] at h; cases h
    | some b =>
      rw [e] at h
      refine kitAny_cons (kit_ty e) (fun hb => ?_) (fun hb => ?_)
      · subst hb
        exact kitAny_bs h
      · subst hb
        exact (Option.some.inj h).symm
theorem clsV_all : ∀ cs : List String, Paired ClsV (cs.map V.ty) (cs.map Value.type)
  | [] => .nil
  | c :: cs => .cons (.ty c) (clsV_all cs)
theorem isiT {K : PySem.W.Frag} {H : Hp} {v : V} {d : PyData} {p : Addr} {cs : List String} {r : Bool} {Q : VK} (h : Dp K H v d) (hp : H p = some (.tup (cs.map V.ty))) (hk : kitBs (tn d) cs = some r) (q : Q (.bl r) H) : rIsiT K [v, .ref p] H Q :=
  ⟨v, p, cs.map V.ty, .type (tn d), cs.map Value.type, r, rfl, hp, clsV_all cs, Dp.ty h, kitAny_bs hk, q⟩

/-! ### what is walked while nothing that stood changes -/
structure Src (J : It) (H1 : Hp) (n : Nat) (R : Nat → V → Hp → Prop) : Prop where
  go : ∀ i H', Same H1 H' → i < n → J.go i H'
  stop : ∀ H', Same H1 H' → J.stop n H'
  yld : ∀ i H' x H'', Same H1 H' → i < n → J.yld i H' x H'' → Same H' H'' ∧ R i x H''
section
variable {K : PySem.W.Frag} {H1 : Hp}
theorem src_list {a : Addr} {xs : List V} (h : SqL K H1 a xs) : Src (Itl K a) H1 xs.length (fun i x _ => xs[i]? = some x) where
  go := fun i H' e hi => ⟨xs, xs[i], e.seq h, by simp [hi]⟩
  stop := fun H' e => ⟨xs, e.seq h, Nat.le_refl _⟩
  yld := fun i H' x H'' e hi y => by
    obtain ⟨rfl, y⟩ := y
    exact ⟨Same.refl _, y xs (e.seq h)⟩
theorem src_tup {a : Addr} {xs : List V} (h : SqT K H1 a xs) : Src (Itt K a) H1 xs.length (fun i x _ => xs[i]? = some x) where
  go := fun i H' e hi => ⟨xs, xs[i], Same.tupL e h, by simp [hi]⟩
  stop := fun H' e => ⟨xs, Same.tupL e h, Nat.le_refl _⟩
  yld := fun i H' x H'' e hi y => by
    obtain ⟨rfl, y⟩ := y
    exact ⟨Same.refl _, y xs (Same.tupL e h)⟩
theorem src_range {lo : Int} {n : Nat} : Src (Itr lo n) H1 n (fun i x _ => x = .int (lo + i)) where
  go := fun i H' e hi => hi
  stop := fun H' e => Nat.le_refl _
  yld := fun i H' x H'' e hi y => by
    obtain ⟨rfl, y⟩ := y
    exact ⟨Same.refl _, y⟩
theorem src_zipL {a b : Addr} {xs ys : List V} (h : SqL K H1 a xs) (h' : SqL K H1 b ys) (hl : xs.length = ys.length) : Src (Itz K a b) H1 xs.length (fun i x H' => ∃ T u v, x = .ref T ∧ H' T = some (.tup [u, v]) ∧ xs[i]? = some u ∧ ys[i]? = some v) where
  go := fun i H' e hi => ⟨xs, ys, xs[i], ys[i], e.seq h, e.seq h', by simp [hi], by simp [show i < ys.length by omega]⟩
  stop := fun H' e => ⟨xs, ys, e.seq h, e.seq h', .inl (Nat.le_refl _)⟩
  yld := fun i H' x H'' e hi y => by
    obtain ⟨T, u, v, rfl, hT, rfl, f1, f2⟩ := y
    exact ⟨same_new hT _, T, u, v, rfl, upd_same, f1 xs (e.seq h), f2 ys (e.seq h')⟩
theorem src_zipT {a b : Addr} {xs ys : List V} (h : SqT K H1 a xs) (h' : SqT K H1 b ys) (hl : xs.length = ys.length) : Src (RZ.ItzT K a b) H1 xs.length (fun i x H' => ∃ T u v, x = .ref T ∧ H' T = some (.tup [u, v]) ∧ xs[i]? = some u ∧ ys[i]? = some v) where
  go := fun i H' e hi => ⟨xs, ys, xs[i], ys[i], Same.tupL e h, Same.tupL e h', by simp [hi], by simp [show i < ys.length by omega]⟩
  stop := fun H' e => ⟨xs, ys, Same.tupL e h, Same.tupL e h', .inl (Nat.le_refl _)⟩
  yld := fun i H' x H'' e hi y => by
    obtain ⟨T, u, v, rfl, hT, rfl, f1, f2⟩ := y
    exact ⟨same_new hT _, T, u, v, rfl, upd_same, f1 xs (Same.tupL e h), f2 ys (Same.tupL e h')⟩
theorem src_enumL {a : Addr} {xs : List V} (h : SqL K H1 a xs) : Src (Ite K a) H1 xs.length (fun i x H' => ∃ T v, x = .ref T ∧ H' T = some (.tup [.int (i : Nat), v]) ∧ xs[i]? = some v) where
  go := fun i H' e hi => ⟨xs, xs[i], e.seq h, by simp [hi]⟩
  stop := fun H' e => ⟨xs, e.seq h, Nat.le_refl _⟩
  yld := fun i H' x H'' e hi y => by
    obtain ⟨T, v, rfl, hT, rfl, f⟩ := y
    exact ⟨same_new hT _, T, v, rfl, upd_same, f xs (e.seq h)⟩
theorem src_enumT {a : Addr} {xs : List V} (h : SqT K H1 a xs) : Src (XR.IteT K a) H1 xs.length (fun i x H' => ∃ T v, x = .ref T ∧ H' T = some (.tup [.int (i : Nat), v]) ∧ xs[i]? = some v) where
  go := fun i H' e hi => ⟨xs, xs[i], Same.tupL e h, by simp [hi]⟩
  stop := fun H' e => ⟨xs, Same.tupL e h, Nat.le_refl _⟩
  yld := fun i H' x H'' e hi y => by
    obtain ⟨T, v, rfl, hT, rfl, f⟩ := y
    exact ⟨same_new hT _, T, v, rfl, upd_same, f xs (Same.tupL e h)⟩
theorem src_keys {d : Addr} {o : Obj} {kvs : List (Key × V)} (h : H1 d = some (.frz o (.dK kvs))) : Src (Itk d o kvs) H1 kvs.length (fun i x _ => ∃ k v, kvs[i]? = some (k, v) ∧ x = kV k) where
  go := fun i H' e hi => ⟨e _ _ h, hi⟩
  stop := fun H' e => ⟨e _ _ h, Nat.le_refl _⟩
  yld := fun i H' x H'' e hi y => by
    obtain ⟨rfl, y⟩ := y
    exact ⟨Same.refl _, y⟩
theorem src_enumK {d : Addr} {o : Obj} {kvs : List (Key × V)} (h : H1 d = some (.frz o (.dK kvs))) : Src (XR.IteK d o kvs) H1 kvs.length (fun i x H' => ∃ T k u, x = .ref T ∧ kvs[i]? = some (k, u) ∧ H' T = some (.tup [.int (i : Nat), kV k])) where
  go := fun i H' e hi => ⟨e _ _ h, hi⟩
  stop := fun H' e => ⟨e _ _ h, Nat.le_refl _⟩
  yld := fun i H' x H'' e hi y => by
    obtain ⟨T, k, u, rfl, hT, hk, rfl⟩ := y
    exact ⟨same_new hT _, T, k, u, rfl, hk, upd_same⟩
end
def LcR (J : It) (H1 : Hp) (g : TG) (tt : TT) (te : TE) (vs : List Nat) (σ : L2.St) (Q : VK) : Prop :=
    ∀ D, H1 D = none → ∃ W : Nat → Nat → Hp → Prop, (∃ m, W 0 m (upd H1 D (.lst []))) ∧ ∀ i m H, W i m H →
      (J.stop i H ∧ Q (.ref D) H) ∨ (J.go i H ∧ ∃ Nx : Hp → Prop, (∀ H', Nx H' → ∃ m', m' < m ∧ W (i + 1) m' H') ∧ ∀ x H', J.yld i H x H' → g x (wipe σ vs) H' fun σ2 H2 => wipe σ2 vs = wipe σ vs ∧ tt σ2 H2 fun b H3 =>
        if b = true then te σ2 H3 fun y H4 => ∃ acc, H4 D = some (.lst acc) ∧ acc.length < sizeLine ∧ Nx (upd H4 D (.lst (acc ++ [y]))) else Nx H3)
theorem rd_lc {wi : TI} {g : TG} {tt : TT} {te : TE} {vs : List Nat} {σ : L2.St} {H : Hp} {Q : VK} (h : wi σ H fun J H1 => LcR J H1 g tt te vs σ Q) : tLc wi g tt te vs σ H Q := h
/-- a list comprehension whose elements are data; nothing that stood changes -/
theorem lcp {K : PySem.W.Frag} {J : It} {H1 : Hp} {n : Nat} {R : Nat → V → Hp → Prop} {g : TG} {tt : TT} {te : TE} {vs : List Nat} {σ : L2.St} {Q : VK} {N : Addr → Prop} (hN : Tr N H1) (S : Src J H1 n R) (hn : n ≤ 100000) (keep : Nat → Bool) (ds : Nat → PyData)
    (step : ∀ (i : Nat) (x : V) (H' : Hp) (N' : Addr → Prop) (Q2 : VK) (Q3 : Hp → Prop), i < n → Same H1 H' → R i x H' → Tr N' H' → Same (hide N H1) (hide N' H') →
      (∀ y H4, Same H' H4 → keep i = true → Dp K (hide N' H4) y (ds i) → Q2 y H4) → (∀ H4, Same H' H4 → keep i = false → Q3 H4) →
      g x (wipe σ vs) H' fun σ2 H2 => wipe σ2 vs = wipe σ vs ∧ tt σ2 H2 fun b H3 => if b = true then te σ2 H3 Q2 else Q3 H3)
    (fin : ∀ D H2 ys, H1 D = none → Same H1 H2 → H2 D = some (.lst ys) → DpAll K (hide N H2) ys (((List.range n).filter keep).map ds) → Q (.ref D) H2) :
    LcR J H1 g tt te vs σ Q := by
  intro D hD
  let I : Nat → Hp → Prop := fun i H => Same H1 H ∧ ∃ ys, H D = some (.lst ys) ∧ ys.length ≤ i ∧ DpAll K (hide (plus N D) H) ys (((List.range i).filter keep).map ds)
  refine ⟨fun i m H => m = n - i ∧ i ≤ n ∧ I i H, ⟨n, rfl, Nat.zero_le _, same_new hD _, [], upd_same, Nat.le_refl _, .nil⟩, ?_⟩
  rintro i m H ⟨rfl, hi, e, ys, hy, hl, da⟩
  by_cases hlt : i < n
  · refine .inr ⟨S.go i H e hlt, I (i + 1), fun H' h => ⟨n - (i + 1), by omega, rfl, hlt, h⟩, fun x H' y => ?_⟩
    obtain ⟨e', r⟩ := S.yld i H x H' e hlt y
    have e1 : Same H1 H' := e.trans e'
    have hD' : H' D = some (.lst ys) := e' _ _ hy
    have tr : Tr (plus N D) H' := fun a z => by
      rcases z with rfl | z
      · rw [hD']; exact fun q => nomatch q
      · exact (hN.same e1) a z
    refine step i x H' (plus N D) _ _ hlt e1 r tr (plus_same hD e1) (fun y H4 e4 hk hd => ⟨ys, e4 _ _ hD', ?_, ?_⟩) (fun H4 e4 hk => ?_)
    · exact Nat.lt_of_le_of_lt (Nat.le_trans hl (Nat.le_trans (Nat.le_of_lt hlt) hn)) (by decide)
    · refine ⟨same_upd hD (e1.trans e4) _, ys ++ [y], upd_same, by rw [List.length_append]; exact Nat.succ_le_succ hl, ?_⟩
      have ek : ((List.range (i + 1)).filter keep).map ds = ((List.range i).filter keep).map ds ++ [ds i] := by
        rw [List.range_succ, List.filter_append, List.map_append]
        simp [hk]
      rw [ek]
      exact DpAll.app (DpAll.same (fun a o q => plus_upd a o (hide_mono (e'.trans e4) a o q)) da) (.cons (Dp.same plus_upd hd) .nil)
    · have ek : ((List.range (i + 1)).filter keep).map ds = ((List.range i).filter keep).map ds := by
        rw [List.range_succ, List.filter_append, List.map_append]
        simp [hk]
      refine ⟨e1.trans e4, ys, e4 _ _ hD', Nat.le_succ_of_le hl, ?_⟩
      rw [ek]
      exact DpAll.same (hide_mono (e'.trans e4)) da
  · have ei : i = n := by omega
    subst ei
    exact .inl ⟨S.stop H e, fin D H ys hD e hy (DpAll.same plus_down da)⟩
end DB

-- text: Defs0
set_option linter.all false
set_option maxRecDepth 100000
set_option maxHeartbeats 4000000
namespace K29
open PySem PySem.Spec PyProof.Rows L2 DB
def top (i : Nat) : Stmt := PySem.Challenge.pw_eithershown_k29_whole_no_row_down.main.body.getD i (.Pass ⟨0, 0, 0, 0⟩)
/-- a def of the top that can be called: what it promises at most k calls deep -/
structure Callee (P : Program) (w : World) (K : PySem.W.Frag) (mg : Str → Option Value) (base : Heap) (k : Nat) (x : Str) (ps : List Str) (sp : Sp) : Prop where
  ex : ∃ (f : Addr) (fd : FuncData), FnOk P w K mg base CX0 k f fd ps sp ∧ Binds K fd ps [] ∧ PySem.W.keepIn K (.ref f) = true ∧ mg x = some (.ref f)
/-- a def of the top as it stands -/
structure Def (K : PySem.W.Frag) (mg : Str → Option Value) (x : Str) (st : Stmt) (ps : List Str) : Prop where
  ex : ∃ (f : Addr) (fd : FuncData), Fun K x x st f fd ∧ Binds K fd ps [] ∧ mg x = some (.ref f)
section
variable {P : Program} {w : World} {K : PySem.W.Frag} {mg : Str → Option Value} {base : Heap}
theorem Callee.mono {j k : Nat} {x : Str} {ps : List Str} {sp : Sp} (C : Callee P w K mg base j x ps sp) (h : j ≤ k) : Callee P w K mg base k x ps sp := by
  obtain ⟨f, fd, a, b, c, d⟩ := C.ex
  exact ⟨f, fd, a.mono h, b, c, d⟩
theorem pe_own {X : Cx} {k : Nat} {x : Str} {ps : List Str} {sp : Sp} {e : Expr} {es : List Expr} {t : TA} {p pos : Pos} (C : Callee X.prog X.w X.K X.mg X.base k x ps sp) (hr : Room k X.A) (hg : Gl X x) (ha : PA X (e :: es) t) (hd : (x == ("__debug__" : Str)) = false := by decide)
    (he : starEach (e :: es) X.env = (false, eval e X.env) :: starEach es X.env := by rfl) (hpl : (backTo pos (starEach es X.env)).any (·.1) = false := by rfl) :
    PE X (.Call (.Name x p) (e :: es) [] pos) (tCall sp [] E0 t) := by
  obtain ⟨f, fd, F, b, kp, m⟩ := C.ex
  exact pe_call F hr hg m kp b .nil pass0 ha hd he hpl
end
/-! ### what the module's names hold -/
def sSMALL : Str := "abcdefghijklmnopqrstuvwxyz"
def sFIGURES : Str := "0123456789"
def sCAPITALS : Str := "ABCDEFGHIJKLMNOPQRSTUVWXYZ"
def kwords : List Str := (["all", "some", "not", "and", "or", "then", "iff", "false", "axiom", "goal", "function", "predicate", "things", "is", "by", "on", "of", "put", "for", "in", "at", "into", "given", "instance", "resolve", "replace", "same", "alike", "either", "turned", "chained", "parts", "holds", "class", "fact", "cell", "clash", "size", "follows", "fails", "open", "watch", "hold"] : List String).map Str.ofString
structure Glob (K : PySem.W.Frag) (mg : Str → Option Value) : Prop where
  small : ∃ u, mg "SMALL" = some u ∧ RelV (.str sSMALL) u
  figures : ∃ u, mg "FIGURES" = some u ∧ RelV (.str sFIGURES) u
  capitals : ∃ u, mg "CAPITALS" = some u ∧ RelV (.str sCAPITALS) u
  words : ∃ (a : Addr) (u : Value), mg "WORDS" = some u ∧ RelV (.ref a) u ∧ ∀ H, SqT K H a (kwords.map V.str)
  isinstance : mg "isinstance" = none
  str : mg "str" = none
  list : mg "list" = none
  tuple : mg "tuple" = none
  int : mg "int" = none
  bool : mg "bool" = none
  dict : mg "dict" = none
  len : mg "len" = none
  all : mg "all" = none
  any : mg "any" = none
  sum : mg "sum" = none
  sorted : mg "sorted" = none
  range : mg "range" = none
  enumerate : mg "enumerate" = none
  zip : mg "zip" = none
/-! ### tests, told by their truth -/
section
variable {t : TT} {u v z : TS} {D : Ends} {σ : L2.St} {H : Hp}
def TT1 (t : TT) (σ : L2.St) (H : Hp) (b : Bool) : Prop := ∀ Q : Bool → Hp → Prop, (∀ H', Same H H' → Q b H') → t σ H Q
theorem if_t (b : Bool) (h : TT1 t σ H b) (h1 : b = true → ∀ H', Same H H' → u D σ H') (h2 : b = false → ∀ H', Same H H' → v D σ H') : tIfS t u v D σ H := by
  refine h _ fun H' e => ?_
  cases b with
  | true => rw [if_pos rfl]; exact h1 rfl H' e
  | false => rw [if_neg Bool.false_ne_true]; exact h2 rfl H' e
theorem q_if (b : Bool) (h : TT1 t σ H b) (h1 : b = true → ∀ H', Same H H' → u { D with nx := z D } σ H') (h2 : b = false → ∀ H', Same H H' → v { D with nx := z D } σ H') : tSeq (tIfS t u v) z D σ H := if_t (D := { D with nx := z D }) b h h1 h2
/-- an if without else -/
theorem q_when (b : Bool) (h : TT1 t σ H b) (h1 : b = true → ∀ H', Same H H' → u { D with nx := z D } σ H') (h2 : b = false → ∀ H', Same H H' → z D σ H') : tSeq (tIfS t u tNext) z D σ H := if_t (D := { D with nx := z D }) b h h1 h2
theorem ite_b {b : Bool} {A B : Prop} (h1 : b = true → A) (h2 : b = false → B) : if b = true then A else B := by
  cases b with
  | true => rw [if_pos rfl]; exact h1 rfl
  | false => rw [if_neg Bool.false_ne_true]; exact h2 rfl
end
end K29

-- text: Defs1
set_option linter.all false
set_option maxRecDepth 100000
set_option maxHeartbeats 4000000
namespace K29
open PySem PySem.Spec PyProof.Rows L2 DB
local macro_rules | `(tactic| walk_at "rd") => `(tactic| (dsimp only [cxOf, Cx.nox, L2.start, tRet, tRetN, tCB, tCons, tNil, tC, tVar, tTup, tLst, tB, tTest, tAnd, tOr, tNot, tAndV, tOrV, tNotV, tIfS, tIf, tSeq, tNext, tDrop, tOp, tUn, tAsg, gName, gSub, tSl, tPart, tNoPart, tCall, tPar, tBM, tChain, tYes, List.length_cons, List.length_nil, List.set_cons_zero, List.set_cons_succ, List.nil_append, List.cons_append, List.append_nil]))
section
variable {P : Program} {w : World} {K : PySem.W.Frag} {mg : Str → Option Value} {base : Heap}
def tns : List String := ["NoneType", "bool", "int", "str", "list", "tuple", "dict"]
theorem tn_mem (d : PyData) : tn d ∈ tns := by cases d <;> simp [tn, tns]
theorem kb_lt (d : PyData) : kitBs (tn d) ["list", "tuple"] = some (tn d == "list" || tn d == "tuple") := (by decide +kernel : ∀ t ∈ tns, kitBs t ["list", "tuple"] = some (t == "list" || t == "tuple")) _ (tn_mem d)
theorem kb_iltd (d : PyData) : kitBs (tn d) ["int", "list", "tuple", "dict"] = some (tn d == "int" || tn d == "bool" || tn d == "list" || tn d == "tuple" || tn d == "dict") := (by decide +kernel : ∀ t ∈ tns, kitBs t ["int", "list", "tuple", "dict"] = some (t == "int" || t == "bool" || t == "list" || t == "tuple" || t == "dict")) _ (tn_mem d)
theorem kb_str (d : PyData) : kitB (tn d) "str" = some (tn d == "str") := (by decide +kernel : ∀ t ∈ tns, kitB t "str" = some (t == "str")) _ (tn_mem d)
theorem kb_tuple (d : PyData) : kitB (tn d) "tuple" = some (tn d == "tuple") := (by decide +kernel : ∀ t ∈ tns, kitB t "tuple" = some (t == "tuple")) _ (tn_mem d)
theorem kb_list (d : PyData) : kitB (tn d) "list" = some (tn d == "list") := (by decide +kernel : ∀ t ∈ tns, kitB t "list" = some (t == "list")) _ (tn_mem d)
theorem kb_dict (d : PyData) : kitB (tn d) "dict" = some (tn d == "dict") := (by decide +kernel : ∀ t ∈ tns, kitB t "dict" = some (t == "dict")) _ (tn_mem d)
theorem kb_bool (d : PyData) : kitB (tn d) "bool" = some (tn d == "bool") := (by decide +kernel : ∀ t ∈ tns, kitB t "bool" = some (t == "bool")) _ (tn_mem d)
theorem kb_int (d : PyData) : kitB (tn d) "int" = some (tn d == "int" || tn d == "bool") := (by decide +kernel : ∀ t ∈ tns, kitB t "int" = some (t == "int" || t == "bool")) _ (tn_mem d)
def spIsList (K : PySem.W.Frag) : Sp := fun vs H Q _ => ∃ v d, vs = [v] ∧ Dp K H v d ∧ ∀ H', Same H H' → Q (.bl (tn d == "list" || tn d == "tuple")) H'
abbrev st_is_list : Stmt := top 12
theorem sc_is_list : FnScope ["thing"] ["thing"] (defScope st_is_list) := ⟨rfl, rfl, rfl, by decide +kernel, rfl, by decide +kernel, by decide +kernel⟩
theorem ok_is_list (G : Glob K mg) (D : Def K mg "is_list" st_is_list ["thing"]) : Callee P w K mg base 1 "is_list" ["thing"] (spIsList K) := by
  obtain ⟨f, fd, F, b, m⟩ := D.ex
  have z_isinstance := G.isinstance
  have z_list := G.list
  have z_tuple := G.tuple
  refine ⟨f, fd, F.ok sc_is_list (fun vs H Q E h => ?_) (fun cdv A outer s H vs Q E hr h => ?_), b, F.kp, m⟩
  · obtain ⟨v, d, rfl, _⟩ := h
    rfl
  · obtain ⟨v, d, rfl, hd, k⟩ := h
    refine ⟨_, (pss_one (ps_ret (pe_callB call_isiT rfl z_isinstance boot_isinstance (pa_cons (pv 0) (pa_cons (pe_tup (pa_cons (pe_bltn (v := .ty "list") rfl z_list boot_list rfl) (pa_cons (pe_bltn (v := .ty "tuple") rfl z_tuple boot_tuple rfl) pa_nil))) pa_nil))))), ?_⟩
    refine ⟨v, rfl, by decide, fun p hp => ?_⟩
    exact isiT (cs := ["list", "tuple"]) (Dp.same (same_new hp _) hd) upd_same (kb_lt d) (k _ (same_new hp _))
def spIsInteger (K : PySem.W.Frag) : Sp := fun vs H Q _ => ∃ v d, vs = [v] ∧ Dp K H v d ∧ Q (.bl (tn d == "int")) H
abbrev st_is_integer : Stmt := top 13
theorem sc_is_integer : FnScope ["thing"] ["thing"] (defScope st_is_integer) := ⟨rfl, rfl, rfl, by decide +kernel, rfl, by decide +kernel, by decide +kernel⟩
theorem ok_is_integer (G : Glob K mg) (D : Def K mg "is_integer" st_is_integer ["thing"]) : Callee P w K mg base 1 "is_integer" ["thing"] (spIsInteger K) := by
  obtain ⟨f, fd, F, b, m⟩ := D.ex
  have z_isinstance := G.isinstance
  have z_int := G.int
  have z_bool := G.bool
  refine ⟨f, fd, F.ok sc_is_integer (fun vs H Q E h => ?_) (fun cdv A outer s H vs Q E hr h => ?_), b, F.kp, m⟩
  · obtain ⟨v, d, rfl, _⟩ := h
    rfl
  · obtain ⟨v, d, rfl, hd, k⟩ := h
    refine ⟨_, (pss_one (ps_ret (pe_and (pe_callB call_isi rfl z_isinstance boot_isinstance (pa_cons (pv 0) (pa_cons (pe_bltn (v := .ty "int") rfl z_int boot_int rfl) pa_nil))) (pe_one (pe_not (pe_callB call_isi rfl z_isinstance boot_isinstance (pa_cons (pv 0) (pa_cons (pe_bltn (v := .ty "bool") rfl z_bool boot_bool rfl) pa_nil)))))))), ?_⟩
    walk_at "rd"
    refine ⟨v, rfl, ?_⟩
    refine isi1 hd (kb_int d) ?_
    refine ⟨_, rfl, ?_⟩
    by_cases h1 : (tn d == "int" || tn d == "bool") = true
    · rw [if_pos h1]
      refine ⟨v, rfl, ?_⟩
      refine isi1 hd (kb_bool d) ?_
      refine ⟨_, rfl, ?_⟩
      have e := (by decide +kernel : ∀ t ∈ tns, (t == "int" || t == "bool") = true → (!(t == "bool")) = (t == "int")) _ (tn_mem d) h1
      rw [e]
      exact k
    · rw [if_neg h1]
      have e := (by decide +kernel : ∀ t ∈ tns, ¬ (t == "int" || t == "bool") = true → (t == "int") = false) _ (tn_mem d) h1
      rw [e] at k
      exact k
def chOk (c : Nat) : Bool := decide (c ∈ sSMALL.cps.toList) || decide (c ∈ sFIGURES.cps.toList)
def bigSmall (x : Str) : Bool := match x.cps[0]? with
  | some c => decide (c ∈ sSMALL.cps.toList)
  | none => false
def nameOk (x : Str) : Bool := decide ((0 : Int) < (x.length : Nat)) && decide (((x.length : Nat) : Int) < 9) && !inV (.str x) (kwords.map V.str) && bigSmall x && x.cps.toList.all chOk
def bigCap (x : Str) : Bool := match x.cps[0]? with
  | some c => decide (c ∈ sCAPITALS.cps.toList)
  | none => false
def isNm : PyData → Bool
  | .str x => nameOk x
  | _ => false
theorem src_str {H1 : Hp} {x : Str} : Src (Its x) H1 x.cps.toList.length (fun i v _ => ∃ c, x.cps.toList[i]? = some c ∧ v = .str ⟨#[c]⟩) where
  go := fun i H' e hi => by
    have hi' : i < x.cps.size := by simpa using hi
    exact hi'
  stop := fun H' e => by show x.cps.size ≤ _; simp
  yld := fun i H' v H'' e hi y => by
    obtain ⟨rfl, c, hc, rfl⟩ := y
    exact ⟨Same.refl _, c, by simpa using hc, rfl⟩
theorem all_of {n : Nat} {l : List Nat} (h : n = l.length) (f : Nat → Bool) : (((List.range n).map fun i => f (l.getD i 0)).all id) = l.all f := by
  subst h
  rw [List.all_map]
  apply Bool.eq_iff_iff.mpr
  rw [List.all_eq_true, List.all_eq_true]
  constructor
  · intro q x hx
    obtain ⟨i, hi, rfl⟩ := List.mem_iff_getElem.mp hx
    have := q i (List.mem_range.mpr hi)
    simpa [List.getD, hi] using this
  · intro q i hi
    have hi' := List.mem_range.mp hi
    have := q l[i] (List.getElem_mem hi')
    simpa [List.getD, hi'] using this
def spIsName (K : PySem.W.Frag) : Sp := fun vs H Q _ => ∃ v d, vs = [v] ∧ Dp K H v d ∧ (∀ x, d = .str x → x.length ≤ 100000) ∧ ∀ H', Same H H' → Q (.bl (isNm d)) H'
abbrev st_is_name : Stmt := top 14
theorem sc_is_name : FnScope ["thing", "sign"] ["thing"] (defScope st_is_name) := ⟨rfl, rfl, rfl, by decide +kernel, rfl, by decide +kernel, by decide +kernel⟩
theorem ok_is_name (G : Glob K mg) (D : Def K mg "is_name" st_is_name ["thing"]) : Callee P w K mg base 1 "is_name" ["thing"] (spIsName K) := by
  obtain ⟨f, fd, F, b, m⟩ := D.ex
  have z_isinstance := G.isinstance
  have z_str := G.str
  have z_len := G.len
  have z_all := G.all
  obtain ⟨uS, T_SMALL⟩ := G.small
  obtain ⟨uF, T_FIGURES⟩ := G.figures
  obtain ⟨aW, uW, m1, m2, hW⟩ := G.words
  have T_WORDS : mg "WORDS" = some uW ∧ RelV (.ref aW) uW := ⟨m1, m2⟩
  refine ⟨f, fd, F.ok sc_is_name (fun vs H Q E h => ?_) (fun cdv A outer s H vs Q E hr h => ?_), b, F.kp, m⟩
  · obtain ⟨v, d, rfl, _⟩ := h
    rfl
  · obtain ⟨v, d, rfl, hd, hl, k⟩ := h
    refine ⟨_, (pss_cons (ps_if (PW.pt (pw_or (pt_not (pt_val (pe_callB call_isi rfl z_isinstance boot_isinstance (pa_cons (pv 0) (pa_cons (pe_bltn (v := .ty "str") rfl z_str boot_str rfl) pa_nil))))) (pw_or (pt_not (pt_chain op_lt op_lt pe_int (pe_callB call_len_str rfl z_len PySem.boot_len (pa_cons (pv 0) pa_nil)) pe_int)) (pw_or (pt_cmpR op_in_seq (pv 0) (pe_glob rfl T_WORDS.1 T_WORDS.2) (by with_unfolding_all rfl)) (pw_or1 (pt_cmpR op_notIn_sign (pe_ix ix_str (pv 0) pe_int (fun _ _ => rfl)) (pe_glob rfl T_SMALL.1 T_SMALL.2) (by with_unfolding_all rfl))))))) (pss_one (ps_ret pe_bl)) pss_nil) (pss_one (ps_ret (pe_callB (cr_all rfl) rfl z_all boot_all (pa_cons (pe_lc (own := [("sign", 1)]) (g := (gName 1)) (tt := tYes) rfl sc_is_name.nd (pi_str (pv 0)) (blkOk_by (N := ["thing", "sign"]) (sc := defScope st_is_name) (by decide +kernel)) (fun _ _ _ _ _ => (pg_name (i := 1) sc_is_name.nd rfl (Or.inl rfl))) (fun _ _ _ _ _ => pts_nil) (fun _ _ _ _ _ => (pe_or (pe_cmpR op_in_sign (pv 1) (pe_glob rfl T_SMALL.1 T_SMALL.2) (by with_unfolding_all rfl)) (pe_one (pe_cmpR op_in_sign (pv 1) (pe_glob rfl T_FIGURES.1 T_FIGURES.2) (by with_unfolding_all rfl)))))) pa_nil))))), ?_⟩
    have h0 := Same.refl H
    by_cases hs : (tn d == "str") = true
    · obtain ⟨x, rfl⟩ : ∃ x, d = .str x := by
        cases d with
        | str x => exact ⟨x, rfl⟩
        | _ => simp [tn] at hs
      cases hd
      have hx := hl x rfl
      have hz : x.length ≤ sizeLine := Nat.le_trans hx (by decide)
      refine q_when (!(decide ((0 : Int) < (x.length : Nat)) && decide (((x.length : Nat) : Int) < 9) && !inV (.str x) (kwords.map V.str) && bigSmall x)) (fun Q1 q1 => ?_) (fun hb H' e => ?_) (fun hb H' e => ?_)
      · walk_at "rd"
        refine ⟨_, rfl, isi1 (.str x) (kb_str (.str x)) ⟨_, rfl, ?_⟩⟩
        rw [if_neg (show ¬ (!tn (PyData.str x) == "str") = true by simp [tn])]
        refine ⟨_, rfl, x, rfl, hz, 0, _, rfl, rfl, _, rfl, ?_⟩
        refine ite_b (fun e1 => ?_) (fun e1 => ?_)
        · refine ⟨_, _, rfl, rfl, _, rfl, ?_⟩
          refine ite_b (fun e2 => ?_) (fun e2 => ?_)
          · have e3 : decide (((x.length : Nat) : Int) < 9) = false := by simpa using e2
            have := q1 H h0
            simp only [e3, Bool.and_false, Bool.false_and, Bool.not_false] at this
            exact this
          · have e3 : decide (((x.length : Nat) : Int) < 9) = true := by simpa using e2
            refine ⟨_, rfl, aW, _, rfl, .inr (hW H), rfl, by decide +kernel, _, rfl, ?_⟩
            refine ite_b (fun e4 => ?_) (fun e4 => ?_)
            · have e5 : inV (.str x) (kwords.map V.str) = true := e4
              have := q1 H h0
              simp only [e5, Bool.and_false, Bool.false_and, Bool.not_false, Bool.not_true] at this
              exact this
            · have e5 : inV (.str x) (kwords.map V.str) = false := e4
              have hp : 0 < x.cps.size := by
                have e6 : (0 : Int) < (x.length : Nat) := of_decide_eq_true e1
                have e7 : x.length = x.cps.size := rfl
                omega
              have e6 : x.cps[0]? = some x.cps[0] := by simp [hp]
              have e7 : bigSmall x = decide (x.cps[0] ∈ sSMALL.cps.toList) := by unfold bigSmall; rw [e6]
              refine ⟨_, rfl, x, 0, x.cps[0], rfl, rfl, hz, atI_nat (j := 0) (by simp [hp]), _, _, rfl, rfl, _, rfl, ?_⟩
              have := q1 H h0
              rw [e1, e3, e5, e7] at this
              simpa using this
        · refine ⟨_, rfl, ?_⟩
          refine iteT ?_
          have := q1 H h0
          simp only [e1, Bool.and_false, Bool.false_and, Bool.not_false] at this
          exact this
      · have e1 : nameOk x = false := by
          unfold nameOk
          simp only [Bool.not_eq_true'] at hb
          rw [hb]
          rfl
        have := k H' e
        rw [show isNm (.str x) = false from e1] at this
        exact this
      · have e1 : nameOk x = x.cps.toList.all chOk := by
          unfold nameOk
          simp only [Bool.not_eq_false'] at hb
          rw [hb]
          rfl
        walk_at "rd"
        refine rd_lc ?_
        refine ⟨_, rfl, x, rfl, ?_⟩
        refine lcp (K := K) (N := no0) (tr0 _) src_str (by rw [Array.length_toList]; exact hx) (fun _ => true) (fun i => .bool (chOk (x.cps.toList.getD i 0))) (fun i v H2 N' Q2 Q3 hi e2 r tr hs2 q2 q3 => ?_) (fun Dl H2 ys nD e2 hy da => ?_)
        · obtain ⟨c, hc, rfl⟩ := r
          refine ⟨rfl, ?_⟩
          walk_at "rd"
          refine iteT ?_
          refine ⟨_, rfl, c, _, rfl, rfl, _, rfl, ?_⟩
          have ec : x.cps.toList.getD i 0 = c := by rw [List.getD_eq_getElem?_getD, hc]; rfl
          refine ite_b (fun a1 => ?_) (fun a1 => ?_)
          · refine q2 _ _ (Same.refl _) rfl ?_
            rw [ec]
            have : chOk c = true := by unfold chOk; rw [a1]; rfl
            rw [this]
            exact .bl true
          · refine ⟨_, rfl, c, _, rfl, rfl, q2 _ _ (Same.refl _) rfl ?_⟩
            rw [ec]
            have : chOk c = decide (c ∈ sFIGURES.cps.toList) := by unfold chOk; rw [a1]; rfl
            rw [this]
            exact .bl _
        · have ef : ((List.range x.cps.toList.length).filter (fun _ => true)).map (fun i => PyData.bool (chOk (x.cps.toList.getD i 0))) = ((List.range x.cps.toList.length).map fun i => chOk (x.cps.toList.getD i 0)).map PyData.bool := by
            rw [List.filter_eq_self.mpr (fun _ _ => rfl), List.map_map]
            rfl
          rw [ef] at da
          have ey := DpAll.bls da
          refine ⟨Dl, _, rfl, .inl (.inl (by rw [hy, ey])), ?_⟩
          rw [all_of rfl chOk, ← e1]
          exact k H2 (e.trans e2)
    · have hs' : (tn d == "str") = false := by simpa using hs
      refine q_when true (fun Q1 q1 => ?_) (fun hb H' e => ?_) (fun hb => nomatch hb)
      · walk_at "rd"
        refine ⟨_, rfl, isi1 hd (kb_str d) ⟨_, rfl, ?_⟩⟩
        rw [hs']
        exact q1 H h0
      · have e1 : isNm d = false := by
          cases d with
          | str x => simp [tn] at hs
          | _ => rfl
        rw [← e1]
        exact k H' e
end
end K29

-- text: Math
set_option linter.all false
set_option maxRecDepth 100000
set_option maxHeartbeats 4000000
/-! ground words of the names a, b, f, g (and atoms p), their order: plain Lean -/
namespace K29
open PySem PySem.Spec
inductive W | a | b | f (x : W) | g (x y : W) | p (x : W)
  deriving DecidableEq
namespace W
def nm : W → Str
  | a => "a" | b => "b" | f _ => "f" | g _ _ => "g" | p _ => "p"
def kids : W → List W
  | a => [] | b => [] | f x => [x] | g x y => [x, y] | p x => [x]
def ht : W → Nat
  | a => 0 | b => 0 | f x => x.ht + 1 | g x y => max x.ht y.ht + 1 | p x => x.ht + 1
def dat : W → PyData
  | a => .tuple [.str "a"] | b => .tuple [.str "b"] | f x => .tuple [.str "f", x.dat] | g x y => .tuple [.str "g", x.dat, y.dat] | p x => .tuple [.str "p", x.dat]
theorem dat_eq : ∀ w : W, w.dat = .tuple (.str w.nm :: w.kids.map dat)
  | a => rfl | b => rfl | f _ => rfl | g _ _ => rfl | p _ => rfl
theorem kids_ht : ∀ {w x : W}, x ∈ w.kids → x.ht < w.ht
  | a, _, h => by simp [kids] at h
  | b, _, h => by simp [kids] at h
  | f x, y, h => by simp [kids] at h; subst h; simp [ht]
  | p x, y, h => by simp [kids] at h; subst h; simp [ht]
  | g x z, y, h => by
    simp [kids] at h
    rcases h with rfl | rfl
    · simp only [ht]; omega
    · simp only [ht]; omega
theorem kids_len : ∀ w : W, w.kids.length ≤ 2
  | a => Nat.zero_le _ | b => Nat.zero_le _ | f _ => by simp [kids] | g _ _ => by simp [kids] | p _ => by simp [kids]
theorem eqv_dat : ∀ w v : W, PyData.eqv w.dat v.dat = decide (w = v) := by
  have na : ∀ x y : Str, x ≠ y → PyData.eqv (.str x) (.str y) = false := fun x y h => by simp [PyData.eqv, h]
  have sm : ∀ x : Str, PyData.eqv (.str x) (.str x) = true := fun x => by simp [PyData.eqv]
  have d1 : ("a" : Str) ≠ "b" := by decide +kernel
  have d2 : ("a" : Str) ≠ "f" := by decide +kernel
  have d3 : ("a" : Str) ≠ "g" := by decide +kernel
  have d4 : ("a" : Str) ≠ "p" := by decide +kernel
  have d5 : ("b" : Str) ≠ "f" := by decide +kernel
  have d6 : ("b" : Str) ≠ "g" := by decide +kernel
  have d7 : ("b" : Str) ≠ "p" := by decide +kernel
  have d8 : ("f" : Str) ≠ "g" := by decide +kernel
  have d9 : ("f" : Str) ≠ "p" := by decide +kernel
  have d10 : ("g" : Str) ≠ "p" := by decide +kernel
  intro w
  induction w with
  | a => intro v; cases v <;> simp [dat, PyData.eqv, PyData.eqvAll, d1, d2, d3, d4]
  | b => intro v; cases v <;> simp [dat, PyData.eqv, PyData.eqvAll, d1.symm, d5, d6, d7]
  | f x ih => intro v; cases v <;> simp [dat, PyData.eqv, PyData.eqvAll, d2.symm, d5.symm, d8, d9, ih]
  | p x ih => intro v; cases v <;> simp [dat, PyData.eqv, PyData.eqvAll, d4.symm, d7.symm, d9.symm, d10.symm, ih]
  | g x y ih1 ih2 =>
    intro v
    cases v with
    | g u v => simp [dat, PyData.eqv, PyData.eqvAll, ih1, ih2]
    | _ => simp [dat, PyData.eqv, PyData.eqvAll, d3.symm, d6.symm, d8.symm, d10]
theorem depth_dat : ∀ w : W, w.dat.depth = w.ht + 1
  | a => by simp [dat, PyData.depth, PyData.depthAll, ht]
  | b => by simp [dat, PyData.depth, PyData.depthAll, ht]
  | f x => by simp [dat, PyData.depth, PyData.depthAll, ht, depth_dat x]
  | p x => by simp [dat, PyData.depth, PyData.depthAll, ht, depth_dat x]
  | g x y => by simp [dat, PyData.depth, PyData.depthAll, ht, depth_dat x, depth_dat y]
theorem lay_dat : ∀ w : W, w.dat.canLay0 = true
  | a => by decide +kernel
  | b => by decide +kernel
  | f x => by simp only [dat, PyData.canLay0, PyData.canLayAll0, lay_dat x]; decide +kernel
  | p x => by simp only [dat, PyData.canLay0, PyData.canLayAll0, lay_dat x]; decide +kernel
  | g x y => by simp only [dat, PyData.canLay0, PyData.canLayAll0, lay_dat x, lay_dat y]; decide +kernel
theorem shaped_dat {w : W} (h : w.ht ≤ 60) : SeqAt.shaped w.dat = true := by
  show (w.dat.canLay0 && decide (w.dat.depth ≤ 64)) = true
  rw [lay_dat, depth_dat, Bool.true_and]
  exact decide_eq_true (by omega)
/-! ### the order -/
section
variable (wt : Str → Int) (rk : Str → Nat)
def wgt : W → Int
  | a => wt "a" | b => wt "b" | f x => wt "f" + x.wgt | g x y => wt "g" + (x.wgt + y.wgt) | p x => wt "p" + x.wgt
theorem wgt_eq (w : W) : w.wgt wt = wt w.nm + (w.kids.map (wgt wt)).sum := by
  cases w <;> simp [wgt, nm, kids]
def abv : W → W → Bool
  | f x, f y => if (f x).wgt wt ≠ (f y).wgt wt then decide ((f y).wgt wt < (f x).wgt wt) else abv x y
  | p x, p y => if (p x).wgt wt ≠ (p y).wgt wt then decide ((p y).wgt wt < (p x).wgt wt) else abv x y
  | g x y, g u v => if (g x y).wgt wt ≠ (g u v).wgt wt then decide ((g u v).wgt wt < (g x y).wgt wt) else if x ≠ u then abv x u else abv y v
  | x, y => if x.wgt wt ≠ y.wgt wt then decide (y.wgt wt < x.wgt wt) else decide (rk y.nm < rk x.nm)
/-- what stands behind the names -/
def kabv : W → W → Bool
  | f x, f y => abv wt rk x y
  | p x, p y => abv wt rk x y
  | g x y, g u v => if x ≠ u then abv wt rk x u else abv wt rk y v
  | _, _ => false
theorem abv_eq (x y : W) : abv wt rk x y = if x.wgt wt ≠ y.wgt wt then decide (y.wgt wt < x.wgt wt) else if x.nm ≠ y.nm then decide (rk y.nm < rk x.nm) else kabv wt rk x y := by
  have d1 : ("a" : Str) ≠ "b" := by decide +kernel
  have d2 : ("a" : Str) ≠ "f" := by decide +kernel
  have d3 : ("a" : Str) ≠ "g" := by decide +kernel
  have d4 : ("a" : Str) ≠ "p" := by decide +kernel
  have d5 : ("b" : Str) ≠ "f" := by decide +kernel
  have d6 : ("b" : Str) ≠ "g" := by decide +kernel
  have d7 : ("b" : Str) ≠ "p" := by decide +kernel
  have d8 : ("f" : Str) ≠ "g" := by decide +kernel
  have d9 : ("f" : Str) ≠ "p" := by decide +kernel
  have d10 : ("g" : Str) ≠ "p" := by decide +kernel
  cases x <;> cases y <;> simp [abv, kabv, nm, d1, d2, d3, d4, d5, d6, d7, d8, d9, d10, d1.symm, d2.symm, d3.symm, d4.symm, d5.symm, d6.symm, d7.symm, d8.symm, d9.symm, d10.symm]
theorem same_name {x y : W} (h : x.nm = y.nm) : (x = a ∧ y = a) ∨ (x = b ∧ y = b) ∨ (∃ u v, x = f u ∧ y = f v) ∨ (∃ u v, x = p u ∧ y = p v) ∨ ∃ u v u' v', x = g u v ∧ y = g u' v' := by
  have d1 : ("a" : Str) ≠ "b" := by decide +kernel
  have d2 : ("a" : Str) ≠ "f" := by decide +kernel
  have d3 : ("a" : Str) ≠ "g" := by decide +kernel
  have d4 : ("a" : Str) ≠ "p" := by decide +kernel
  have d5 : ("b" : Str) ≠ "f" := by decide +kernel
  have d6 : ("b" : Str) ≠ "g" := by decide +kernel
  have d7 : ("b" : Str) ≠ "p" := by decide +kernel
  have d8 : ("f" : Str) ≠ "g" := by decide +kernel
  have d9 : ("f" : Str) ≠ "p" := by decide +kernel
  have d10 : ("g" : Str) ≠ "p" := by decide +kernel
  cases x <;> cases y <;> simp [nm, d1, d2, d3, d4, d5, d6, d7, d8, d9, d10, d1.symm, d2.symm, d3.symm, d4.symm, d5.symm, d6.symm, d7.symm, d8.symm, d9.symm, d10.symm] at h ⊢
theorem abv_irr (x : W) : abv wt rk x x = false := by
  induction x with
  | a => simp [abv]
  | b => simp [abv]
  | f x ih => simp [abv, ih]
  | p x ih => simp [abv, ih]
  | g x y ih1 ih2 => simp [abv, ih2]
theorem flipI {m n : Int} (h : m ≠ n) : decide (n < m) = !decide (m < n) := by
  by_cases q : n < m
  · rw [decide_eq_true q, decide_eq_false (by omega)]; rfl
  · rw [decide_eq_false q, decide_eq_true (by omega)]; rfl
theorem flipN {m n : Nat} (h : m ≠ n) : decide (n < m) = !decide (m < n) := by
  by_cases q : n < m
  · rw [decide_eq_true q, decide_eq_false (by omega)]; rfl
  · rw [decide_eq_false q, decide_eq_true (by omega)]; rfl
def Inj : Prop := ∀ x y : W, rk x.nm = rk y.nm → x.nm = y.nm
theorem tri_base (inj : Inj rk) {x y : W} (h : x.wgt wt ≠ y.wgt wt ∨ x.nm ≠ y.nm) : abv wt rk x y = !abv wt rk y x := by
  rw [abv_eq, abv_eq wt rk y]
  by_cases e1 : x.wgt wt = y.wgt wt
  · have e2 : x.nm ≠ y.nm := h.resolve_left fun q => q e1
    rw [if_neg (fun q => q e1), if_pos e2, if_neg (fun q => q e1.symm), if_pos (Ne.symm e2)]
    exact flipN fun q => e2 (inj x y q)
  · rw [if_pos e1, if_pos (Ne.symm e1)]
    exact flipI e1
theorem abv_same {x y : W} (e1 : x.wgt wt = y.wgt wt) (e2 : x.nm = y.nm) : abv wt rk x y = kabv wt rk x y := by
  rw [abv_eq, if_neg (fun q => q e1), if_neg (fun q => q e2)]
/-- unlike words: one of them is above -/
theorem abv_tri (inj : Inj rk) : ∀ (x y : W), x ≠ y → abv wt rk x y = !abv wt rk y x := by
  intro x
  induction x with
  | a =>
    intro y h
    by_cases q : wgt wt a = y.wgt wt ∧ nm a = y.nm
    · rcases same_name q.2 with ⟨_, r⟩ | ⟨l, _⟩ | ⟨_, _, l, _⟩ | ⟨_, _, l, _⟩ | ⟨_, _, _, _, l, _⟩ <;> first | exact absurd r.symm h | cases l
    · exact tri_base wt rk inj (by by_cases e : wgt wt a = y.wgt wt; exact .inr fun z => q ⟨e, z⟩; exact .inl e)
  | b =>
    intro y h
    by_cases q : wgt wt b = y.wgt wt ∧ nm b = y.nm
    · rcases same_name q.2 with ⟨l, _⟩ | ⟨_, r⟩ | ⟨_, _, l, _⟩ | ⟨_, _, l, _⟩ | ⟨_, _, _, _, l, _⟩ <;> first | exact absurd r.symm h | cases l
    · exact tri_base wt rk inj (by by_cases e : wgt wt b = y.wgt wt; exact .inr fun z => q ⟨e, z⟩; exact .inl e)
  | f x ih =>
    intro y h
    by_cases q : wgt wt (f x) = y.wgt wt ∧ nm (f x) = y.nm
    · rw [abv_same wt rk q.1 q.2, abv_same wt rk q.1.symm q.2.symm]
      rcases same_name q.2 with ⟨l, _⟩ | ⟨l, _⟩ | ⟨u, v, l, r⟩ | ⟨_, _, l, _⟩ | ⟨_, _, _, _, l, _⟩ <;> first | cases l
      subst r
      exact ih v fun q => h (by rw [q])
    · exact tri_base wt rk inj (by by_cases e : wgt wt (f x) = y.wgt wt; exact .inr fun z => q ⟨e, z⟩; exact .inl e)
  | p x ih =>
    intro y h
    by_cases q : wgt wt (p x) = y.wgt wt ∧ nm (p x) = y.nm
    · rw [abv_same wt rk q.1 q.2, abv_same wt rk q.1.symm q.2.symm]
      rcases same_name q.2 with ⟨l, _⟩ | ⟨l, _⟩ | ⟨_, _, l, _⟩ | ⟨u, v, l, r⟩ | ⟨_, _, _, _, l, _⟩ <;> first | cases l
      subst r
      exact ih v fun q => h (by rw [q])
    · exact tri_base wt rk inj (by by_cases e : wgt wt (p x) = y.wgt wt; exact .inr fun z => q ⟨e, z⟩; exact .inl e)
  | g x1 x2 ih1 ih2 =>
    intro y h
    by_cases q : wgt wt (g x1 x2) = y.wgt wt ∧ nm (g x1 x2) = y.nm
    · rw [abv_same wt rk q.1 q.2, abv_same wt rk q.1.symm q.2.symm]
      rcases same_name q.2 with ⟨l, _⟩ | ⟨l, _⟩ | ⟨_, _, l, _⟩ | ⟨_, _, l, _⟩ | ⟨u, v, u', v', l, r⟩ <;> first | cases l
      subst r
      show (if x1 ≠ u' then abv wt rk x1 u' else abv wt rk x2 v') = !(if u' ≠ x1 then abv wt rk u' x1 else abv wt rk v' x2)
      by_cases e3 : x1 = u'
      · rw [if_neg (fun z => z e3), if_neg (fun z => z e3.symm)]
        exact ih2 v' fun q => h (by rw [q, e3])
      · rw [if_pos e3, if_pos (Ne.symm e3)]
        exact ih1 u' e3
    · exact tri_base wt rk inj (by by_cases e : wgt wt (g x1 x2) = y.wgt wt; exact .inr fun z => q ⟨e, z⟩; exact .inl e)
theorem abv_wgt {x y : W} (h : abv wt rk x y = true) : y.wgt wt ≤ x.wgt wt := by
  rw [abv_eq] at h
  by_cases e1 : x.wgt wt = y.wgt wt
  · omega
  · rw [if_pos e1] at h
    have := of_decide_eq_true h
    omega
theorem abv_rk {x y : W} (h : abv wt rk x y = true) (e1 : x.wgt wt = y.wgt wt) : rk y.nm ≤ rk x.nm := by
  rw [abv_eq, if_neg (fun q => q e1)] at h
  by_cases e2 : x.nm = y.nm
  · rw [e2]; exact Nat.le_refl _
  · rw [if_pos e2] at h
    exact Nat.le_of_lt (of_decide_eq_true h)
theorem abv_of_wgt {x y : W} (h : y.wgt wt < x.wgt wt) : abv wt rk x y = true := by
  rw [abv_eq, if_pos (by omega)]
  exact decide_eq_true h
theorem abv_of_rk {x y : W} (e1 : x.wgt wt = y.wgt wt) (h : rk y.nm < rk x.nm) : abv wt rk x y = true := by
  rw [abv_eq, if_neg (fun q => q e1), if_pos (fun q => by rw [q] at h; omega)]
  exact decide_eq_true h
theorem abv_trans0 (inj : Inj rk) (x y z : W) (k : x.wgt wt = y.wgt wt → y.wgt wt = z.wgt wt → x.nm = y.nm → y.nm = z.nm → kabv wt rk x y = true → kabv wt rk y z = true → kabv wt rk x z = true) (h1 : abv wt rk x y = true) (h2 : abv wt rk y z = true) : abv wt rk x z = true := by
  have w1 := abv_wgt wt rk h1
  have w2 := abv_wgt wt rk h2
  by_cases e1 : x.wgt wt = y.wgt wt
  · by_cases e2 : y.wgt wt = z.wgt wt
    · have r1 := abv_rk wt rk h1 e1
      have r2 := abv_rk wt rk h2 e2
      by_cases n1 : x.nm = y.nm
      · by_cases n2 : y.nm = z.nm
        · rw [abv_same wt rk (e1.trans e2) (n1.trans n2)]
          rw [abv_same wt rk e1 n1] at h1
          rw [abv_same wt rk e2 n2] at h2
          exact k e1 e2 n1 n2 h1 h2
        · have : rk y.nm ≠ rk z.nm := fun q => n2 (inj y z q)
          exact abv_of_rk wt rk (e1.trans e2) (by rw [n1]; omega)
      · have : rk x.nm ≠ rk y.nm := fun q => n1 (inj x y q)
        exact abv_of_rk wt rk (e1.trans e2) (by omega)
    · exact abv_of_wgt wt rk (by omega)
  · exact abv_of_wgt wt rk (by omega)
theorem abv_trans (inj : Inj rk) : ∀ (x y z : W), abv wt rk x y = true → abv wt rk y z = true → abv wt rk x z = true := by
  intro x
  induction x with
  | a =>
    intro y z
    refine abv_trans0 wt rk inj _ y z fun _ _ n1 _ h1 _ => ?_
    rcases same_name n1 with ⟨_, r⟩ | ⟨l, _⟩ | ⟨_, _, l, _⟩ | ⟨_, _, l, _⟩ | ⟨_, _, _, _, l, _⟩ <;> first | (subst r; cases h1) | cases l
  | b =>
    intro y z
    refine abv_trans0 wt rk inj _ y z fun _ _ n1 _ h1 _ => ?_
    rcases same_name n1 with ⟨l, _⟩ | ⟨_, r⟩ | ⟨_, _, l, _⟩ | ⟨_, _, l, _⟩ | ⟨_, _, _, _, l, _⟩ <;> first | (subst r; cases h1) | cases l
  | f x ih =>
    intro y z
    refine abv_trans0 wt rk inj _ y z fun _ _ n1 n2 h1 h2 => ?_
    rcases same_name n1 with ⟨l, _⟩ | ⟨l, _⟩ | ⟨u, v, l, r⟩ | ⟨_, _, l, _⟩ | ⟨_, _, _, _, l, _⟩ <;> first | cases l
    subst r
    rcases same_name n2 with ⟨l, _⟩ | ⟨l, _⟩ | ⟨u, v', l, r⟩ | ⟨_, _, l, _⟩ | ⟨_, _, _, _, l, _⟩ <;> first | cases l
    subst r
    exact ih _ _ h1 h2
  | p x ih =>
    intro y z
    refine abv_trans0 wt rk inj _ y z fun _ _ n1 n2 h1 h2 => ?_
    rcases same_name n1 with ⟨l, _⟩ | ⟨l, _⟩ | ⟨_, _, l, _⟩ | ⟨u, v, l, r⟩ | ⟨_, _, _, _, l, _⟩ <;> first | cases l
    subst r
    rcases same_name n2 with ⟨l, _⟩ | ⟨l, _⟩ | ⟨_, _, l, _⟩ | ⟨u, v', l, r⟩ | ⟨_, _, _, _, l, _⟩ <;> first | cases l
    subst r
    exact ih _ _ h1 h2
  | g x1 x2 ih1 ih2 =>
    intro y z
    refine abv_trans0 wt rk inj _ y z fun _ _ n1 n2 h1 h2 => ?_
    rcases same_name n1 with ⟨l, _⟩ | ⟨l, _⟩ | ⟨_, _, l, _⟩ | ⟨_, _, l, _⟩ | ⟨_, _, y1, y2, l, r⟩ <;> first | cases l
    subst r
    rcases same_name n2 with ⟨l, _⟩ | ⟨l, _⟩ | ⟨_, _, l, _⟩ | ⟨_, _, l, _⟩ | ⟨_, _, z1, z2, l, r⟩ <;> first | cases l
    subst r
    have h1' : (if x1 ≠ y1 then abv wt rk x1 y1 else abv wt rk x2 y2) = true := h1
    have h2' : (if y1 ≠ z1 then abv wt rk y1 z1 else abv wt rk y2 z2) = true := h2
    show (if x1 ≠ z1 then abv wt rk x1 z1 else abv wt rk x2 z2) = true
    by_cases e1 : x1 = y1
    · subst e1
      rw [if_neg (fun q => q rfl)] at h1'
      by_cases e2 : x1 = z1
      · subst e2
        rw [if_neg (fun q => q rfl)] at h2' ⊢
        exact ih2 _ _ h1' h2'
      · rw [if_pos e2] at h2' ⊢
        exact h2'
    · rw [if_pos e1] at h1'
      by_cases e2 : y1 = z1
      · subst e2
        rw [if_pos e1]
        exact h1'
      · rw [if_pos e2] at h2'
        have t := ih1 _ _ h1' h2'
        have e3 : x1 ≠ z1 := fun q => by
          subst q
          rw [abv_irr] at t
          cases t
        rw [if_pos e3]
        exact t
end
end W
end K29

-- text: Defs2
set_option linter.all false
set_option maxRecDepth 100000
set_option maxHeartbeats 4000000
namespace K29
open PySem PySem.Spec PyProof.Rows L2 DB
local macro_rules | `(tactic| walk_at "rd") => `(tactic| (dsimp only [cxOf, Cx.nox, L2.start, tRet, tRetN, tCB, tCons, tNil, tC, tVar, tTup, tLst, tB, tTest, tAnd, tOr, tNot, tAndV, tOrV, tNotV, tIfS, tIf, tSeq, tNext, tDrop, tOp, tUn, tAsg, gName, gSub, tSl, tPart, tNoPart, tCall, tPar, tBM, tChain, tYes, StX.tStar, tFld, tNotN, tIsN, tDNotIn, tDIn, tDGet, tDGet2, tDNewK, List.length_cons, List.length_nil, List.set_cons_zero, List.set_cons_succ, List.nil_append, List.cons_append, List.append_nil]))
section
variable {P : Program} {w : World} {K : PySem.W.Frag} {mg : Str → Option Value} {base : Heap}

/-- a word's tuple -/
theorem word_at {N : Addr → Prop} {H : Hp} {v : V} {x : W} (h : Dp K (hide N H) v x.dat) : ∃ a ks, v = .ref a ∧ SqT K (hide N H) a (.str x.nm :: ks) ∧ DpAll K (hide N H) ks (x.kids.map W.dat) := by
  rw [W.dat_eq] at h
  cases h with
  | tup hs ha =>
    cases ha with
    | cons h1 h2 =>
      cases h1
      exact ⟨_, _, rfl, hs, h2⟩
theorem nameOk_nm (x : W) : isNm (.str x.nm) = true := by cases x <;> (show nameOk _ = true) <;> (simp only [W.nm]; decide +kernel)
theorem nm_len (x : W) : x.nm.length ≤ 100000 := by cases x <;> (simp only [W.nm]; decide +kernel)
/-- in all of this claim only tuples are asked -/
def spIsVariable (K : PySem.W.Frag) : Sp := fun vs H Q _ => ∃ v d, vs = [v] ∧ Dp K H v d ∧ (tn d == "str") = false ∧ ∀ H', Same H H' → Q (.bl false) H'
abbrev st_is_variable : Stmt := top 15
theorem sc_is_variable : FnScope ["thing", "sign"] ["thing"] (defScope st_is_variable) := ⟨rfl, rfl, rfl, by decide +kernel, rfl, by decide +kernel, by decide +kernel⟩
theorem ok_is_variable (G : Glob K mg) (D : Def K mg "is_variable" st_is_variable ["thing"]) : Callee P w K mg base 1 "is_variable" ["thing"] (spIsVariable K) := by
  obtain ⟨f, fd, F, b, m⟩ := D.ex
  have z_isinstance := G.isinstance
  have z_str := G.str
  have z_len := G.len
  have z_all := G.all
  obtain ⟨uF, T_FIGURES⟩ := G.figures
  obtain ⟨uC, T_CAPITALS⟩ := G.capitals
  refine ⟨f, fd, F.ok sc_is_variable (fun vs H Q E h => ?_) (fun cdv A outer s H vs Q E hr h => ?_), b, F.kp, m⟩
  · obtain ⟨v, d, rfl, _⟩ := h
    rfl
  · obtain ⟨v, d, rfl, hd, hs, k⟩ := h
    refine ⟨_, (pss_cons (ps_if (PW.pt (pw_or (pt_not (pt_val (pe_callB call_isi rfl z_isinstance boot_isinstance (pa_cons (pv 0) (pa_cons (pe_bltn (v := .ty "str") rfl z_str boot_str rfl) pa_nil))))) (pw_or (pt_not (pt_chain op_lt op_lt pe_int (pe_callB call_len_str rfl z_len PySem.boot_len (pa_cons (pv 0) pa_nil)) pe_int)) (pw_or1 (pt_cmpR op_notIn_sign (pe_ix ix_str (pv 0) pe_int (fun _ _ => rfl)) (pe_glob rfl T_CAPITALS.1 T_CAPITALS.2) (by with_unfolding_all rfl)))))) (pss_one (ps_ret pe_bl)) pss_nil) (pss_one (ps_ret (pe_callB (cr_all rfl) rfl z_all boot_all (pa_cons (pe_lc (own := [("sign", 1)]) (g := (gName 1)) (tt := tYes) rfl sc_is_variable.nd (pi_str (pe_slice sl_str (pv 0) (po_some pe_int) po_none)) (blkOk_by (N := ["thing", "sign"]) (sc := defScope st_is_variable) (by decide +kernel)) (fun _ _ _ _ _ => (pg_name (i := 1) sc_is_variable.nd rfl (Or.inl rfl))) (fun _ _ _ _ _ => pts_nil) (fun _ _ _ _ _ => (pe_cmpR op_in_sign (pv 1) (pe_glob rfl T_FIGURES.1 T_FIGURES.2) (by with_unfolding_all rfl)))) pa_nil))))), ?_⟩
    refine q_when true (fun Q1 q1 => ?_) (fun hb H' e => ?_) (fun hb => nomatch hb)
    · walk_at "rd"
      refine ⟨_, rfl, isi1 hd (kb_str d) ⟨_, rfl, ?_⟩⟩
      rw [hs]
      exact q1 H (Same.refl H)
    · exact k H' e
def spAsWord (K : PySem.W.Frag) (n : Nat) : Sp := fun vs H Q _ => ∃ N v x, vs = [v] ∧ Tr N H ∧ Dp K (hide N H) v (W.dat x) ∧ x.ht < n ∧ ∀ v' H', Same H H' → Dp K (hide N H') v' (W.dat x) → Q v' H'
abbrev st_as_word : Stmt := top 17
theorem sc_as_word : FnScope ["thing", "parts", "one"] ["thing"] (defScope st_as_word) := ⟨rfl, rfl, rfl, by decide +kernel, rfl, by decide +kernel, by decide +kernel⟩
theorem cut1 (x : V) (xs : List V) : cutV (x :: xs) (some 1) none = xs := by
  have e : HT.sIx (x :: xs).length 0 (some 1) = 1 := by
    have := HT.sIx_nat (x :: xs).length 0 1
    rw [show ((1 : Nat) : Int) = 1 from rfl] at this
    rw [this, List.length_cons]
    omega
  unfold cutV
  rw [e, HT.sIx_none, List.length_cons]
  show List.take (xs.length + 1 - 1) xs = xs
  rw [Nat.add_sub_cancel, List.take_length]
theorem cut1_ne (x : V) (xs : List V) : ¬ (HT.sIx (x :: xs).length 0 (some 1) = 0 ∧ HT.sIx (x :: xs).length (x :: xs).length none = (x :: xs).length) := by
  have e : HT.sIx (x :: xs).length 0 (some 1) = 1 := by
    have := HT.sIx_nat (x :: xs).length 0 1
    rw [show ((1 : Nat) : Int) = 1 from rfl] at this
    rw [this, List.length_cons]
    omega
  intro h
  rw [e] at h
  exact absurd h.1 (by decide)
theorem map_range {α β : Type} (l : List α) (f : α → β) (d : α) : ((List.range l.length).filter (fun _ => true)).map (fun i => f (l.getD i d)) = l.map f := by
  rw [List.filter_eq_self.mpr (fun _ _ => rfl)]
  apply List.ext_getElem
  · simp
  · intro i h1 h2
    simp at h1
    simp [List.getD, h1]
theorem no_none (x : W) : ((x.kids.map W.dat).any fun z => PyData.eqv z .none) = false := by
  rw [List.any_eq_false]
  intro z hz
  obtain ⟨y, _, rfl⟩ := List.mem_map.mp hz
  rw [W.dat_eq]
  simp [PyData.eqv]
theorem kids_shaped {x : W} {n : Nat} (h : x.ht < n + 1) (hn : n ≤ 50) : SeqAt.shaped (.list (x.kids.map W.dat)) = true := by
  have h1 : PyData.canLay0 (.list (x.kids.map W.dat)) = true := by
    cases x <;> simp [W.kids, PyData.canLay0, PyData.canLayAll0, W.lay_dat]
  have h2 : PyData.depth (.list (x.kids.map W.dat)) ≤ 64 := by
    cases x <;> simp [W.kids, PyData.depth, PyData.depthAll, W.depth_dat, W.ht] at h ⊢ <;> omega
  show (PyData.canLay0 (.list (x.kids.map W.dat)) && decide (PyData.depth (.list (x.kids.map W.dat)) ≤ 64)) = true
  rw [h1, Bool.true_and]
  exact decide_eq_true h2
theorem ok_as_word (G : Glob K mg) (D : Def K mg "as_word" st_as_word ["thing"]) (c_is_variable : Callee P w K mg base 1 "is_variable" ["thing"] (spIsVariable K)) (c_is_list : Callee P w K mg base 1 "is_list" ["thing"] (spIsList K)) (c_is_name : Callee P w K mg base 1 "is_name" ["thing"] (spIsName K)) :
    ∀ n, n ≤ 51 → Callee P w K mg base (n + 1) "as_word" ["thing"] (spAsWord K n)
  | 0, _ => by
    obtain ⟨f, fd, F, b, m⟩ := D.ex
    refine ⟨f, fd, F.ok sc_as_word (fun vs H Q E h => ?_) (fun cdv A outer s H vs Q E hr h => ?_), b, F.kp, m⟩
    · obtain ⟨N, v, x, rfl, _⟩ := h
      rfl
    · obtain ⟨N, v, x, rfl, _, _, h, _⟩ := h
      exact absurd h (Nat.not_lt_zero _)
  | n + 1, hn51 => by
    have hn50 : n ≤ 50 := by omega
    have c_as_word := ok_as_word G D c_is_variable c_is_list c_is_name n (by omega)
    obtain ⟨f, fd, F, b, m⟩ := D.ex
    have z_len := G.len
    refine ⟨f, fd, F.ok sc_as_word (fun vs H Q E h => ?_) (fun cdv A outer s H vs Q E hr h => ?_), b, F.kp, m⟩
    · obtain ⟨N, v, x, rfl, _⟩ := h
      rfl
    · obtain ⟨N, v, x, rfl, hN, hd, hx, k⟩ := h
      have hr_as_word := hr
      have hr_is_variable := hr.mono (show 1 ≤ n + 1 by omega)
      have hr_is_list := hr.mono (show 1 ≤ n + 1 by omega)
      have hr_is_name := hr.mono (show 1 ≤ n + 1 by omega)
      have hu65 : (A.deeper (envOfC "as_word" (defScope st_as_word) s.heap.objs.size f cdv)).units + 65 < cLine := by have := hr.un; omega
      refine ⟨_, (pss_cons (ps_if (pt_val (pe_own c_is_variable hr_is_variable rfl (pa_cons (pv 0) pa_nil))) (pss_one (ps_ret (pv 0))) pss_nil) (pss_cons (ps_if (PW.pt (pw_or (pt_not (pt_val (pe_own c_is_list hr_is_list rfl (pa_cons (pv 0) pa_nil)))) (pw_or (pt_cmpR op_eq (pe_callB call_len_seq rfl z_len PySem.boot_len (pa_cons (pv 0) pa_nil)) pe_int (nomark _)) (pw_or1 (pt_not (pt_val (pe_own c_is_name hr_is_name rfl (pa_cons (pe_ix ix_tup (pv 0) pe_int (fun _ _ => rfl)) pa_nil)))))))) (pss_one (ps_ret pe_non)) pss_nil) (pss_cons (ps_setLc (i := 1) (own := [("one", 2)]) (g := (gName 2)) (tt := tYes) rfl sc_as_word.nd rfl rfl (sw_true rfl rfl rfl (by decide +kernel)) (pi_tup (pe_slice sl_tupA (pv 0) (po_some pe_int) po_none)) (blkOk_by (N := ["thing", "parts", "one"]) (sc := defScope st_as_word) (by decide +kernel)) (fun _ _ _ _ _ => (pg_name (i := 2) sc_as_word.nd rfl (Or.inl rfl))) (fun _ _ _ _ _ => pts_nil) (fun _ _ _ _ _ => (pe_own c_as_word hr_as_word rfl (pa_cons (pv 2) pa_nil)))) (pss_one (ps_ret (pe_ifExp (pt_cmpR (op_notInD hu65) pe_non (pv 1) (by with_unfolding_all rfl)) (pe_tup (pa_cons (pe_ix ix_tup (pv 0) pe_int (fun _ _ => rfl)) (StX.pa_star (pv 1) pa_nil))) pe_non)))))), ?_⟩
      obtain ⟨a, ks, rfl, hs, hk⟩ := word_at hd
      have hd1 : Dp K H (.ref a) x.dat := Dp.same hide_same hd
      have ht : tn x.dat = "tuple" := by rw [W.dat_eq]; rfl
      refine q_when false (fun Q1 q1 => ?_) (fun hb => nomatch hb) (fun _ H1 e1 => ?_)
      · walk_at "rd"
        exact ⟨_, rfl, _, _, rfl, hd1, by rw [ht]; decide, fun H' e => ⟨_, rfl, q1 H' e⟩⟩
      refine q_when false (fun Q1 q1 => ?_) (fun hb => nomatch hb) (fun _ H2 e2 => ?_)
      · walk_at "rd"
        refine ⟨_, rfl, _, _, rfl, Dp.same e1 hd1, fun H' e => ⟨_, rfl, ?_⟩⟩
        rw [ht]
        refine iteF ?_
        have hs' : SqT K H' a (.str x.nm :: ks) := Same.tupL (e1.trans e) (Same.tupL hide_same hs)
        refine ⟨_, rfl, a, _, rfl, .inr hs', rfl, _, rfl, ?_⟩
        rw [if_neg (by
          intro q
          have := of_decide_eq_true q
          simp at this
          omega)]
        refine ⟨_, rfl, a, _, 0, _, rfl, rfl, hs', atI_nat (j := 0) rfl, ?_⟩
        refine ⟨_, _, rfl, .str _, fun y hy => ?_, fun H'' e'' => ⟨_, rfl, ?_⟩⟩
        · cases hy
          exact nm_len x
        · rw [nameOk_nm]
          exact q1 H'' (e.trans e'')
      have s2 : Same H H2 := e1.trans e2
      have hs2 : SqT K H2 a (.str x.nm :: ks) := Same.tupL (hide_same.trans s2) hs
      have lk : ks.length = x.kids.length := by have := DpAll.length hk; rw [List.length_map] at this; exact this
      walk_at "rd"
      refine rd_lc ?_
      refine ⟨_, rfl, 1, rfl, a, _, rfl, hs2, fun q => absurd q (cut1_ne _ _), fun _ p hp => ?_⟩
      rw [cut1]
      refine ⟨p, rfl, ⟨_, .inl (.inl upd_same)⟩, ?_⟩
      have s3 : Same H (upd H2 p (.tup ks)) := s2.trans (same_new hp _)
      have hk3 := DpAll.same (hide_mono (N := N) s3) hk
      refine lcp (K := K) (N := N) (hN.same s3) (src_tup (.inl (.inl upd_same))) (by have := W.kids_len x; omega) (fun _ => true) (fun i => (x.kids.map W.dat).getD i .none) (fun i y H' N' Q2 Q3 hi e r tr hs' q2 q3 => ?_) (fun Dl H3 ys nD e3 hy da => ?_)
      · obtain ⟨d, hd', hy'⟩ := DpAll.get hk3 r
        obtain ⟨xi, hxi, rfl⟩ : ∃ xi, x.kids[i]? = some xi ∧ d = W.dat xi := by
          rw [List.getElem?_map] at hd'
          cases h : x.kids[i]? with
          | none => rw [h] at hd'; cases hd'
          | some xi => rw [h] at hd'; exact ⟨xi, rfl, (Option.some.inj hd').symm⟩
        refine ⟨rfl, ?_⟩
        walk_at "rd"
        refine iteT ?_
        refine ⟨_, rfl, N', y, xi, rfl, tr, Dp.same hs' hy', ?_, fun v' H'' e'' d'' => q2 v' H'' e'' rfl ?_⟩
        · have := W.kids_ht (List.mem_of_getElem? hxi)
          omega
        · rw [List.getD_eq_getElem?_getD, hd']
          exact d''
      · have ed : ((List.range ks.length).filter (fun _ => true)).map (fun i => (x.kids.map W.dat).getD i PyData.none) = x.kids.map W.dat := by
          have := map_range (x.kids.map W.dat) id PyData.none
          rw [List.length_map, List.map_id] at this
          rw [lk]
          exact this
        rw [ed] at da
        have hda : Dp K H3 (.ref Dl) (.list (x.kids.map W.dat)) := .lst (.inl (.inl hy)) (DpAll.same hide_same da)
        have s4 := s3.trans e3
        refine ⟨_, rfl, .none, _, .non, hda, by decide, kids_shaped hx hn50, _, rfl, ?_⟩
        rw [no_none]
        refine iteT ?_
        refine ⟨_, rfl, a, _, 0, _, rfl, rfl, Same.tupL (hide_same.trans s4) hs, atI_nat (j := 0) rfl, ?_⟩
        refine ⟨_, rfl, Dl, ys, rfl, .inr (.inl (.inl hy)), ?_, fun q hq => ?_⟩
        · have := DpAll.length da
          rw [List.length_map] at this
          have h2 := W.kids_len x
          rw [List.append_nil, this]
          exact Nat.le_trans (by omega : x.kids.length + 1 ≤ 3) (by decide)
        · refine k _ _ (s4.trans (same_new hq _)) ?_
          rw [W.dat_eq]
          exact .tup (.inl (.inl (by rw [hide_upd ((hN.same s4).off hq), List.append_nil]))) (.cons (.str _) (DpAll.same (hide_mono (same_new hq _)) da))
end
end K29

-- text: Defs3
set_option linter.all false
set_option maxRecDepth 100000
set_option maxHeartbeats 4000000
namespace K29
open PySem PySem.Spec PyProof.Rows L2 DB
local macro_rules | `(tactic| walk_at "rd") => `(tactic| (dsimp only [cxOf, Cx.nox, L2.start, tRet, tRetN, tCB, tCons, tNil, tC, tVar, tTup, tLst, tB, tTest, tAnd, tOr, tNot, tAndV, tOrV, tNotV, tIfS, tIf, tSeq, tNext, tDrop, tOp, tUn, tAsg, gName, gSub, tSl, tPart, tNoPart, tCall, tPar, tBM, tChain, tYes, StX.tStar, tFld, tNotN, tIsN, tDNotIn, tDIn, tDGet, tDGet2, tDNewK, List.length_cons, List.length_nil, List.set_cons_zero, List.set_cons_succ, List.nil_append, List.cons_append, List.append_nil]))
section
variable {P : Program} {w : World} {K : PySem.W.Frag} {mg : Str → Option Value} {base : Heap}

/-! ### for, over what is walked while nothing that stood changes -/
def ForR (J : It) (H1 : Hp) (g : TG) (tb : TS) (D : Ends) (σ : L2.St) : Prop :=
  ∃ W : Nat → Nat → L2.St → Hp → Prop, (∃ m, W 0 m σ H1) ∧ ∀ i m σ H, W i m σ H →
    (J.stop i H ∧ D.nx σ H) ∨ (J.go i H ∧ ∃ N : L2.St → Hp → Prop, (∀ σ' H', N σ' H' → ∃ m', m' < m ∧ W (i + 1) m' σ' H') ∧ ∀ x H', J.yld i H x H' → g x σ H' fun σ2 H2 => tb { D with nx := N, ct := N, bk := D.nx } σ2 H2)
theorem rd_for {wi : TI} {g : TG} {tb : TS} {D : Ends} {σ : L2.St} {H : Hp} (h : wi σ H fun J H1 => ForR J H1 g tb D σ) : tFor wi g tb D σ H := h
theorem forp {J : It} {H1 : Hp} {n : Nat} {R : Nat → V → Hp → Prop} {g : TG} {tb : TS} {D : Ends} {σ : L2.St} (S : Src J H1 n R) (Pv : Nat → L2.St → Hp → Prop) (h0 : Pv 0 σ H1) (hs : ∀ i σ H, Pv i σ H → Same H1 H)
    (step : ∀ (i : Nat) (x : V) (σ' : L2.St) (H' H'' : Hp), i < n → Pv i σ' H' → Same H' H'' → R i x H'' → g x σ' H'' fun σ2 H2 => tb { D with nx := Pv (i + 1), ct := Pv (i + 1), bk := D.nx } σ2 H2) (fin : ∀ σ' H', Pv n σ' H' → D.nx σ' H') : ForR J H1 g tb D σ := by
  refine ⟨fun i m σ H => m = n - i ∧ i ≤ n ∧ Pv i σ H, ⟨n, rfl, Nat.zero_le _, h0⟩, ?_⟩
  rintro i m σ H ⟨rfl, hi, p⟩
  by_cases hlt : i < n
  · refine .inr ⟨S.go i H (hs i σ H p) hlt, Pv (i + 1), fun σ' H' q => ⟨n - (i + 1), by omega, rfl, hlt, q⟩, fun x H' y => ?_⟩
    obtain ⟨e, r⟩ := S.yld i H x H' (hs i σ H p) hlt y
    exact step i x σ H H' hlt p e r
  · have e : i = n := by omega
    subst e
    exact .inl ⟨S.stop H (hs i σ H p), fin σ H p⟩
/-! ### an order's object -/
def oflds (dw dr : Addr) : List (Str × V) := [("own_weights", .ref dw), ("own_ranks", .ref dr)]
structure OTxt (K : PySem.W.Frag) (mg : Str → Option Value) (C : Addr) : Prop where
  cl : Cls K C
  nW : NoAttr K C "own_weights"
  nR : NoAttr K C "own_ranks"
  mgC : mg "Order" = some (.ref C)
  ha : PySem.W.findIn K (.ref C) "__class__" = some (some (.builtin "object.__class__"))
  hn : PySem.W.specialIn K (.builtin "object.__class__") "__get__" = some (some (.builtin "getset_descriptor.__get__"))
  htk : PySem.W.takesIn K (.builtin "object.__class__") = some true
  hm : PySem.W.mroIn K C (.type "object") = some true
theorem oflds_w (dw dr : Addr) : (oflds dw dr).lookup ("own_weights" : Str) = some (.ref dw) := by
  unfold oflds
  rw [List.lookup_cons, beq_self_eq_true]
theorem oflds_r (dw dr : Addr) : (oflds dw dr).lookup ("own_ranks" : Str) = some (.ref dr) := by
  unfold oflds
  rw [List.lookup_cons, show (("own_ranks" : Str) == "own_weights") = false from by decide +kernel]
  show List.lookup _ [_] = _
  rw [List.lookup_cons, beq_self_eq_true]
structure OrdAt (C : Addr) (H : Hp) (v : V) (wt : Str → Int) (rk : Str → Nat) : Prop where
  ex : ∃ (o dx dw dr : Addr) (kw kr : List (Key × V)), v = .ref o ∧ H o = some (.ins C dx (oflds dw dr)) ∧ H dw = some (.dK kw) ∧ H dr = some (.dK kr) ∧ (∀ x : W, valV kw (.inr x.nm) = some (.int (wt x.nm))) ∧ ∀ x : W, valV kr (.inr x.nm) = some (.int (rk x.nm))
theorem OrdAt.same {C : Addr} {H H' : Hp} {v : V} {wt : Str → Int} {rk : Str → Nat} (h : OrdAt C H v wt rk) (e : Same H H') : OrdAt C H' v wt rk := by
  obtain ⟨o, dx, dw, dr, kw, kr, a, b, c, d, f, g⟩ := h.ex
  exact ⟨o, dx, dw, dr, kw, kr, a, e _ _ b, e _ _ c, e _ _ d, f, g⟩
abbrev st_checked_word : Stmt := top 19
theorem sc_checked_word : FnScope ["thing", "found"] ["thing"] (defScope st_checked_word) := ⟨rfl, rfl, rfl, by decide +kernel, rfl, by decide +kernel, by decide +kernel⟩
theorem ok_checked_word (D : Def K mg "checked_word" st_checked_word ["thing"]) {n : Nat} (c_as_word : Callee P w K mg base (n + 1) "as_word" ["thing"] (spAsWord K n)) : Callee P w K mg base (n + 2) "checked_word" ["thing"] (spAsWord K n) := by
  obtain ⟨f, fd, F, b, m⟩ := D.ex
  refine ⟨f, fd, F.ok sc_checked_word (fun vs H Q E h => ?_) (fun cdv A outer s H vs Q E hr h => ?_), b, F.kp, m⟩
  · obtain ⟨N, v, x, rfl, _⟩ := h
    rfl
  · obtain ⟨N, v, x, rfl, hN, hd, hx, k⟩ := h
    have hr_as_word := hr
    refine ⟨_, (pss_cons (ps_set (i := 1) sc_checked_word.nd rfl (Or.inl rfl) (pe_own c_as_word hr_as_word rfl (pa_cons (pv 0) pa_nil))) (pss_cons (ps_if (pt_cmp (pc_isN (pv 1))) (pss_one ps_never) pss_nil) (pss_cons (ps_if (pt_cmp (pc_isN (pv 1))) pss_never pss_nil) (pss_one (ps_ret (pv 1)))))), ?_⟩
    walk_at "rd"
    refine ⟨_, rfl, N, v, x, rfl, hN, hd, hx, fun v' H' e' d' => ?_⟩
    obtain ⟨a, ks, rfl, _, _⟩ := word_at d'
    have e1 : decide (V.ref a = .non) = false := rfl
    refine ⟨_, rfl, _, rfl, ?_⟩
    rw [e1]
    refine iteF ?_
    refine ⟨_, rfl, _, rfl, ?_⟩
    rw [e1]
    refine iteF ?_
    exact ⟨_, rfl, k _ _ e' d'⟩
abbrev st_checked_order : Stmt := top 22
theorem sc_checked_order : FnScope ["order"] ["order"] (defScope st_checked_order) := ⟨rfl, rfl, rfl, by decide +kernel, rfl, by decide +kernel, by decide +kernel⟩
def spCheckedOrder (C : Addr) : Sp := fun vs H Q _ => ∃ v wt rk, vs = [v] ∧ OrdAt C H v wt rk ∧ Q v H
theorem ok_checked_order (G : Glob K mg) {C : Addr} (T : OTxt K mg C) (D : Def K mg "checked_order" st_checked_order ["order"]) : Callee P w K mg base 1 "checked_order" ["order"] (spCheckedOrder C) := by
  obtain ⟨f, fd, F, b, m⟩ := D.ex
  have z_isinstance := G.isinstance
  refine ⟨f, fd, F.ok sc_checked_order (fun vs H Q E h => ?_) (fun cdv A outer s H vs Q E hr h => ?_), b, F.kp, m⟩
  · obtain ⟨v, wt, rk, rfl, _⟩ := h
    rfl
  · obtain ⟨v, wt, rk, rfl, ho, k⟩ := h
    refine ⟨_, (pss_cons (ps_if (pt_not (pt_val (pe_callB call_isi rfl z_isinstance boot_isinstance (pa_cons (pv 0) (pa_cons (pe_glob (v := .ref C) (u := .ref C) rfl T.mgC rfl) pa_nil))))) pss_never pss_nil) (pss_one (ps_ret (pv 0)))), ?_⟩
    obtain ⟨o, dx, dw, dr, kw, kr, rfl, h1, h2, h3, h4, h5⟩ := ho.ex
    walk_at "rd"
    refine ⟨_, rfl, ?_⟩
    refine ⟨_, .ref C, .ref C, .ref C, true, rfl, .own C, .base (.ins h1 T.cl T.ha T.hn T.htk T.hm), if_pos (beq_self_eq_true _), _, rfl, ?_⟩
    refine iteF ?_
    exact ⟨_, rfl, k⟩
end
end K29

-- text: Loops
set_option linter.all false
set_option maxRecDepth 100000
/-! loops whose walked thing stands while St holds -/
namespace K29
open PySem PySem.Spec PyProof.Rows L2 DB
structure SrcP (J : It) (St : Hp → Prop) (n : Nat) (R : Nat → V → Hp → Hp → Prop) : Prop where
  go : ∀ i H', St H' → i < n → J.go i H'
  stop : ∀ H', St H' → J.stop n H'
  yld : ∀ i H' x H'', St H' → i < n → J.yld i H' x H'' → Same H' H'' ∧ R i x H' H''
section
variable {K : PySem.W.Frag}
theorem sp_tup {a : Addr} {xs : List V} : SrcP (Itt K a) (fun H => SqT K H a xs) xs.length (fun i x Hb H' => xs[i]? = some x ∧ H' = Hb) where
  go := fun i H' h hi => ⟨xs, xs[i], h, by simp [hi]⟩
  stop := fun H' h => ⟨xs, h, Nat.le_refl _⟩
  yld := fun i H' x H'' h hi y => by
    obtain ⟨rfl, y⟩ := y
    exact ⟨Same.refl _, y xs h, rfl⟩
theorem sp_list {a : Addr} {xs : List V} : SrcP (Itl K a) (fun H => SqL K H a xs) xs.length (fun i x Hb H' => xs[i]? = some x ∧ H' = Hb) where
  go := fun i H' h hi => ⟨xs, xs[i], h, by simp [hi]⟩
  stop := fun H' h => ⟨xs, h, Nat.le_refl _⟩
  yld := fun i H' x H'' h hi y => by
    obtain ⟨rfl, y⟩ := y
    exact ⟨Same.refl _, y xs h, rfl⟩
theorem sp_range {lo : Int} {n : Nat} : SrcP (Itr lo n) (fun _ => True) n (fun i x Hb H' => x = .int (lo + i) ∧ H' = Hb) where
  go := fun i H' _ hi => hi
  stop := fun H' _ => Nat.le_refl _
  yld := fun i H' x H'' _ hi y => by
    obtain ⟨rfl, y⟩ := y
    exact ⟨Same.refl _, y, rfl⟩
theorem sp_zipL {a b : Addr} {xs ys : List V} (hl : xs.length = ys.length) : SrcP (Itz K a b) (fun H => SqL K H a xs ∧ SqL K H b ys) xs.length (fun i x Hb H' => ∃ T u v, Hb T = none ∧ x = .ref T ∧ H' = upd Hb T (.tup [u, v]) ∧ xs[i]? = some u ∧ ys[i]? = some v) where
  go := fun i H' e hi => ⟨xs, ys, xs[i], ys[i], e.1, e.2, by simp [hi], by simp [show i < ys.length by omega]⟩
  stop := fun H' e => ⟨xs, ys, e.1, e.2, .inl (Nat.le_refl _)⟩
  yld := fun i H' x H'' e hi y => by
    obtain ⟨T, u, v, rfl, hT, rfl, f1, f2⟩ := y
    exact ⟨same_new hT _, T, u, v, hT, rfl, rfl, f1 xs e.1, f2 ys e.2⟩
theorem sp_zipT {a b : Addr} {xs ys : List V} (hl : xs.length = ys.length) : SrcP (RZ.ItzT K a b) (fun H => SqT K H a xs ∧ SqT K H b ys) xs.length (fun i x Hb H' => ∃ T u v, Hb T = none ∧ x = .ref T ∧ H' = upd Hb T (.tup [u, v]) ∧ xs[i]? = some u ∧ ys[i]? = some v) where
  go := fun i H' e hi => ⟨xs, ys, xs[i], ys[i], e.1, e.2, by simp [hi], by simp [show i < ys.length by omega]⟩
  stop := fun H' e => ⟨xs, ys, e.1, e.2, .inl (Nat.le_refl _)⟩
  yld := fun i H' x H'' e hi y => by
    obtain ⟨T, u, v, rfl, hT, rfl, f1, f2⟩ := y
    exact ⟨same_new hT _, T, u, v, hT, rfl, rfl, f1 xs e.1, f2 ys e.2⟩
theorem sp_enumL {a : Addr} {xs : List V} : SrcP (Ite K a) (fun H => SqL K H a xs) xs.length (fun i x Hb H' => ∃ T v, Hb T = none ∧ x = .ref T ∧ H' = upd Hb T (.tup [.int (i : Nat), v]) ∧ xs[i]? = some v) where
  go := fun i H' e hi => ⟨xs, xs[i], e, by simp [hi]⟩
  stop := fun H' e => ⟨xs, e, Nat.le_refl _⟩
  yld := fun i H' x H'' e hi y => by
    obtain ⟨T, v, rfl, hT, rfl, f⟩ := y
    exact ⟨same_new hT _, T, v, hT, rfl, rfl, f xs e⟩
theorem sp_enumT {a : Addr} {xs : List V} : SrcP (XR.IteT K a) (fun H => SqT K H a xs) xs.length (fun i x Hb H' => ∃ T v, Hb T = none ∧ x = .ref T ∧ H' = upd Hb T (.tup [.int (i : Nat), v]) ∧ xs[i]? = some v) where
  go := fun i H' e hi => ⟨xs, xs[i], e, by simp [hi]⟩
  stop := fun H' e => ⟨xs, e, Nat.le_refl _⟩
  yld := fun i H' x H'' e hi y => by
    obtain ⟨T, v, rfl, hT, rfl, f⟩ := y
    exact ⟨same_new hT _, T, v, hT, rfl, rfl, f xs e⟩
theorem sp_enumK {d : Addr} {o : Obj} {kvs : List (Key × V)} : SrcP (XR.IteK d o kvs) (fun H => H d = some (.frz o (.dK kvs))) kvs.length (fun i x Hb H' => ∃ T k u, Hb T = none ∧ x = .ref T ∧ kvs[i]? = some (k, u) ∧ H' = upd Hb T (.tup [.int (i : Nat), kV k])) where
  go := fun i H' e hi => ⟨e, hi⟩
  stop := fun H' e => ⟨e, Nat.le_refl _⟩
  yld := fun i H' x H'' e hi y => by
    obtain ⟨T, k, u, rfl, hT, hk, rfl⟩ := y
    exact ⟨same_new hT _, T, k, u, hT, rfl, hk, rfl⟩
end
/-- for -/
theorem forq {J : It} {St : Hp → Prop} {H1 : Hp} {n : Nat} {R : Nat → V → Hp → Hp → Prop} {g : TG} {tb : TS} {D : Ends} {σ : L2.St} (S : SrcP J St n R) (Pv : Nat → L2.St → Hp → Prop) (h0 : Pv 0 σ H1) (hs : ∀ i σ H, Pv i σ H → St H)
    (step : ∀ (i : Nat) (x : V) (σ' : L2.St) (H' H'' : Hp), i < n → Pv i σ' H' → Same H' H'' → R i x H' H'' → g x σ' H'' fun σ2 H2 => tb { D with nx := Pv (i + 1), ct := Pv (i + 1), bk := D.nx } σ2 H2) (fin : ∀ σ' H', Pv n σ' H' → D.nx σ' H') : ForR J H1 g tb D σ := by
  refine ⟨fun i m σ H => m = n - i ∧ i ≤ n ∧ Pv i σ H, ⟨n, rfl, Nat.zero_le _, h0⟩, ?_⟩
  rintro i m σ H ⟨rfl, hi, p⟩
  by_cases hlt : i < n
  · refine .inr ⟨S.go i H (hs i σ H p) hlt, Pv (i + 1), fun σ' H' q => ⟨n - (i + 1), by omega, rfl, hlt, q⟩, fun x H' y => ?_⟩
    obtain ⟨e, r⟩ := S.yld i H x H' (hs i σ H p) hlt y
    exact step i x σ H H' hlt p e r
  · have e : i = n := by omega
    subst e
    exact .inl ⟨S.stop H (hs i σ H p), fin σ H p⟩
/-- [.. for .. in .. if ..], with what its parts do to the heap -/
theorem lcq {J : It} {St : Hp → Prop} {H1 : Hp} {n : Nat} {R : Nat → V → Hp → Hp → Prop} {g : TG} {tt : TT} {te : TE} {vs : List Nat} {σ : L2.St} {Q : VK} (S : SrcP J St n R) (hn : n ≤ 100000) (Pv : Addr → Nat → List V → Hp → Prop)
    (h0 : ∀ D, H1 D = none → Pv D 0 [] (upd H1 D (.lst []))) (hs : ∀ D i ys H, Pv D i ys H → St H)
    (step : ∀ (D : Addr) (i : Nat) (x : V) (ys : List V) (H' H'' : Hp) (Q2 : VK) (Q3 : Hp → Prop), i < n → H1 D = none → Pv D i ys H' → H' D = some (.lst ys) → ys.length ≤ i → Same H' H'' → R i x H' H'' →
      (∀ y H4, H4 D = some (.lst ys) → Pv D (i + 1) (ys ++ [y]) (upd H4 D (.lst (ys ++ [y]))) → Q2 y H4) → (∀ H4, H4 D = some (.lst ys) → Pv D (i + 1) ys H4 → Q3 H4) →
      g x (wipe σ vs) H'' fun σ2 H2 => wipe σ2 vs = wipe σ vs ∧ tt σ2 H2 fun b H3 => if b = true then te σ2 H3 Q2 else Q3 H3)
    (fin : ∀ D H2 ys, H1 D = none → Pv D n ys H2 → H2 D = some (.lst ys) → Q (.ref D) H2) : LcR J H1 g tt te vs σ Q := by
  intro D hD
  refine ⟨fun i m H => m = n - i ∧ i ≤ n ∧ ∃ ys, H D = some (.lst ys) ∧ ys.length ≤ i ∧ Pv D i ys H, ⟨n, rfl, Nat.zero_le _, [], upd_same, Nat.le_refl _, h0 D hD⟩, ?_⟩
  rintro i m H ⟨rfl, hi, ys, hy, hl, p⟩
  by_cases hlt : i < n
  · refine .inr ⟨S.go i H (hs D i ys H p) hlt, fun H => ∃ ys, H D = some (.lst ys) ∧ ys.length ≤ i + 1 ∧ Pv D (i + 1) ys H, fun H' h => ⟨n - (i + 1), by omega, rfl, hlt, h⟩, fun x H' y => ?_⟩
    obtain ⟨e', r⟩ := S.yld i H x H' (hs D i ys H p) hlt y
    exact step D i x ys H H' _ _ hlt hD p hy hl e' r (fun y H4 q1 q2 => ⟨ys, q1, Nat.lt_of_le_of_lt (Nat.le_trans hl (Nat.le_trans (Nat.le_of_lt hlt) hn)) (by decide), ys ++ [y], upd_same, by rw [List.length_append]; exact Nat.succ_le_succ hl, q2⟩) (fun H4 q1 q2 => ⟨ys, q1, Nat.le_succ_of_le hl, q2⟩)
  · have ei : i = n := by omega
    subst ei
    exact .inl ⟨S.stop H (hs D i ys H p), fin D H ys hD p hy⟩
theorem paired_imp {α β : Type} {R S : α → β → Prop} (h : ∀ a b, R a b → S a b) : ∀ {xs : List α} {ys : List β}, Paired R xs ys → Paired S xs ys
  | _, _, .nil => .nil
  | _, _, .cons q r => .cons (h _ _ q) (paired_imp h r)
theorem paired_app {α β : Type} {R : α → β → Prop} : ∀ {xs us : List α} {ys vs : List β}, Paired R xs ys → Paired R us vs → Paired R (xs ++ us) (ys ++ vs)
  | _, _, _, _, .nil, b => b
  | _, _, _, _, .cons q r, b => .cons q (paired_app r b)
theorem paired_len {α β : Type} {R : α → β → Prop} : ∀ {xs : List α} {ys : List β}, Paired R xs ys → xs.length = ys.length
  | _, _, .nil => rfl
  | _, _, .cons _ r => by rw [List.length_cons, List.length_cons, paired_len r]
theorem paired_get {α β : Type} {R : α → β → Prop} : ∀ {xs : List α} {ys : List β} {i : Nat} {x : α}, Paired R xs ys → xs[i]? = some x → ∃ y, ys[i]? = some y ∧ R x y
  | _, _, i, x, .nil, h => by simp at h
  | _, _, 0, x, .cons q r, h => by
    have e := Option.some.inj (show some _ = some x from h)
    subst e
    exact ⟨_, rfl, q⟩
  | _, _, i + 1, x, .cons q r, h => paired_get (i := i) r (by simpa using h)
theorem paired_get' {α β : Type} {R : α → β → Prop} : ∀ {xs : List α} {ys : List β} {i : Nat} {y : β}, Paired R xs ys → ys[i]? = some y → ∃ x, xs[i]? = some x ∧ R x y
  | _, _, i, x, .nil, h => by simp at h
  | _, _, 0, x, .cons q r, h => by
    have e := Option.some.inj (show some _ = some x from h)
    subst e
    exact ⟨_, rfl, q⟩
  | _, _, i + 1, x, .cons q r, h => paired_get' (i := i) r (by simpa using h)
theorem paired_map {α β γ : Type} {R : α → γ → Prop} {f : β → γ} : ∀ {xs : List α} {ys : List β}, Paired (fun a b => R a (f b)) xs ys → Paired R xs (ys.map f)
  | _, _, .nil => .nil
  | _, _, .cons q r => .cons q (paired_map r)
/-- a list comprehension whose elements are data; nothing that stood changes -/
theorem lcr {J : It} {H1 : Hp} {n : Nat} {R : Nat → V → Hp → Prop} {g : TG} {tt : TT} {te : TE} {vs : List Nat} {σ : L2.St} {Q : VK} {N : Addr → Prop} (hN : Tr N H1) (S : Src J H1 n R) (hn : n ≤ 100000) (keep : Nat → Bool) (E : Nat → Hp → V → Prop) (mono : ∀ i h h' v, Same h h' → E i h v → E i h' v)
    (step : ∀ (i : Nat) (x : V) (H' : Hp) (N' : Addr → Prop) (Q2 : VK) (Q3 : Hp → Prop), i < n → Same H1 H' → R i x H' → Tr N' H' → Same (hide N H1) (hide N' H') →
      (∀ y H4, Same H' H4 → keep i = true → E i (hide N' H4) y → Q2 y H4) → (∀ H4, Same H' H4 → keep i = false → Q3 H4) →
      g x (wipe σ vs) H' fun σ2 H2 => wipe σ2 vs = wipe σ vs ∧ tt σ2 H2 fun b H3 => if b = true then te σ2 H3 Q2 else Q3 H3)
    (fin : ∀ D H2 ys, H1 D = none → Same H1 H2 → H2 D = some (.lst ys) → Paired (fun v i => E i (hide N H2) v) ys ((List.range n).filter keep) → Q (.ref D) H2) :
    LcR J H1 g tt te vs σ Q := by
  intro D hD
  let I : Nat → Hp → Prop := fun i H => Same H1 H ∧ ∃ ys, H D = some (.lst ys) ∧ ys.length ≤ i ∧ Paired (fun v i => E i (hide (plus N D) H) v) ys ((List.range i).filter keep)
  refine ⟨fun i m H => m = n - i ∧ i ≤ n ∧ I i H, ⟨n, rfl, Nat.zero_le _, same_new hD _, [], upd_same, Nat.le_refl _, .nil⟩, ?_⟩
  rintro i m H ⟨rfl, hi, e, ys, hy, hl, da⟩
  by_cases hlt : i < n
  · refine .inr ⟨S.go i H e hlt, I (i + 1), fun H' h => ⟨n - (i + 1), by omega, rfl, hlt, h⟩, fun x H' y => ?_⟩
    obtain ⟨e', r⟩ := S.yld i H x H' e hlt y
    have e1 : Same H1 H' := e.trans e'
    have hD' : H' D = some (.lst ys) := e' _ _ hy
    have tr : Tr (plus N D) H' := fun a z => by
      rcases z with rfl | z
      · rw [hD']; exact fun q => nomatch q
      · exact (hN.same e1) a z
    refine step i x H' (plus N D) _ _ hlt e1 r tr (plus_same hD e1) (fun y H4 e4 hk hd => ⟨ys, e4 _ _ hD', ?_, ?_⟩) (fun H4 e4 hk => ?_)
    · exact Nat.lt_of_le_of_lt (Nat.le_trans hl (Nat.le_trans (Nat.le_of_lt hlt) hn)) (by decide)
    · refine ⟨same_upd hD (e1.trans e4) _, ys ++ [y], upd_same, by rw [List.length_append]; exact Nat.succ_le_succ hl, ?_⟩
      have ek : (List.range (i + 1)).filter keep = (List.range i).filter keep ++ [i] := by
        rw [List.range_succ, List.filter_append]
        simp [hk]
      rw [ek]
      exact paired_app (paired_imp (fun v i h => mono _ _ _ _ (fun a o q => plus_upd a o (hide_mono (e'.trans e4) a o q)) h) da) (.cons (mono _ _ _ _ plus_upd hd) .nil)
    · have ek : (List.range (i + 1)).filter keep = (List.range i).filter keep := by
        rw [List.range_succ, List.filter_append]
        simp [hk]
      refine ⟨e1.trans e4, ys, e4 _ _ hD', Nat.le_succ_of_le hl, ?_⟩
      rw [ek]
      exact paired_imp (fun v i h => mono _ _ _ _ (hide_mono (e'.trans e4)) h) da
  · have ei : i = n := by omega
    subst ei
    exact .inl ⟨S.stop H e, fin D H ys hD e hy (paired_imp (fun v i h => mono _ _ _ _ plus_down h) da)⟩
end K29

-- text: Defs4
set_option linter.all false
set_option maxRecDepth 100000
set_option maxHeartbeats 4000000
namespace K29
open PySem PySem.Spec PyProof.Rows L2 DB
local macro_rules | `(tactic| walk_at "rd") => `(tactic| (dsimp only [cxOf, Cx.nox, L2.start, tRet, tRetN, tCB, tCons, tNil, tC, tVar, tTup, tLst, tB, tTest, tAnd, tOr, tNot, tAndV, tOrV, tNotV, tIfS, tIf, tSeq, tNext, tDrop, tOp, tUn, tAsg, gName, gSub, tSl, tPart, tNoPart, tCall, tPar, tBM, tChain, tYes, StX.tStar, tFld, tNotN, tIsN, tDNotIn, tDIn, tDGet, tDGet2, tDNewK, List.length_cons, List.length_nil, List.set_cons_zero, List.set_cons_succ, List.nil_append, List.cons_append, List.append_nil]))
section
variable {P : Program} {w : World} {K : PySem.W.Frag} {mg : Str → Option Value} {base : Heap}

theorem kid_at {K : PySem.W.Frag} {H : Hp} {ks : List V} {x : W} (hk : DpAll K H ks (x.kids.map W.dat)) {i : Nat} {y : V} (r : ks[i]? = some y) : ∃ xi, x.kids[i]? = some xi ∧ Dp K H y xi.dat ∧ xi.ht < x.ht := by
  obtain ⟨d, hd', hy'⟩ := DpAll.get hk r
  rw [List.getElem?_map] at hd'
  cases h : x.kids[i]? with
  | none => rw [h] at hd'; cases hd'
  | some xi =>
    rw [h] at hd'
    cases (Option.some.inj hd')
    exact ⟨xi, rfl, hy', W.kids_ht (List.mem_of_getElem? h)⟩
theorem word_at0 {H : Hp} {v : V} {x : W} (h : Dp K H v x.dat) : ∃ a ks, v = .ref a ∧ SqT K H a (.str x.nm :: ks) ∧ DpAll K H ks (x.kids.map W.dat) := by
  rw [← hide0 H] at h
  obtain ⟨a, ks, h1, h2, h3⟩ := word_at h
  rw [hide0] at h2 h3
  exact ⟨a, ks, h1, h2, h3⟩
theorem kids_lk {H : Hp} {ks : List V} {x : W} (hk : DpAll K H ks (x.kids.map W.dat)) : ks.length = x.kids.length := by
  have := DpAll.length hk
  rw [List.length_map] at this
  exact this
theorem isStr_no (x : W) : (tn x.dat == "str") = false := by rw [W.dat_eq]; rfl
abbrev st_first_without : Stmt := top 23
theorem sc_first_without : FnScope ["order", "word", "part", "found"] ["order", "word"] (defScope st_first_without) := ⟨rfl, rfl, rfl, by decide +kernel, rfl, by decide +kernel, by decide +kernel⟩
def spFirstWithout (K : PySem.W.Frag) (C : Addr) (n : Nat) : Sp := fun vs H Q _ => ∃ o v x wt rk, vs = [o, v] ∧ OrdAt C H o wt rk ∧ Dp K H v (W.dat x) ∧ x.ht < n ∧ ∀ H', Same H H' → Q .non H'
theorem ok_first_without (G : Glob K mg) {C : Addr} (T : OTxt K mg C) (D : Def K mg "first_without" st_first_without ["order", "word"]) : ∀ n, Callee P w K mg base (n + 1) "first_without" ["order", "word"] (spFirstWithout K C n)
  | 0 => by
    obtain ⟨f, fd, F, b, m⟩ := D.ex
    refine ⟨f, fd, F.ok sc_first_without (fun vs H Q E h => ?_) (fun cdv A outer s H vs Q E hr h => ?_), b, F.kp, m⟩
    · obtain ⟨o, v, x, wt, rk, rfl, _⟩ := h
      rfl
    · obtain ⟨o, v, x, wt, rk, rfl, _, _, h, _⟩ := h
      exact absurd h (Nat.not_lt_zero _)
  | n + 1 => by
    have c_first_without := ok_first_without G T D n
    obtain ⟨f, fd, F, b, m⟩ := D.ex
    have z_isinstance := G.isinstance
    have z_str := G.str
    refine ⟨f, fd, F.ok sc_first_without (fun vs H Q E h => ?_) (fun cdv A outer s H vs Q E hr h => ?_), b, F.kp, m⟩
    · obtain ⟨o, v, x, wt, rk, rfl, _⟩ := h
      rfl
    · obtain ⟨o, v, x, wt, rk, rfl, ho, hd, hx, k⟩ := h
      have hr_first_without := hr
      have hu := hu_of hr
      refine ⟨_, (pss_cons (ps_if (pt_val (pe_callB call_isi rfl z_isinstance boot_isinstance (pa_cons (pv 1) (pa_cons (pe_bltn (v := .ty "str") rfl z_str boot_str rfl) pa_nil)))) (pss_one (ps_ret pe_non)) pss_nil) (pss_cons (ps_if (pt_cmp (pc_dnotin hu (pe_ix ix_tup (pv 1) pe_int (fun _ _ => rfl)) (pe_fld (pv 0) rfl))) (pss_one (ps_ret (pe_ix ix_tup (pv 1) pe_int (fun _ _ => rfl)))) pss_nil) (pss_cons (ps_for PassesOwn.never rfl (pi_tup (pe_slice sl_tupA (pv 1) (po_some pe_int) po_none)) (pg_name (i := 2) sc_first_without.nd rfl (Or.inl rfl)) (pss_cons (ps_set (i := 3) sc_first_without.nd rfl (Or.inl rfl) (pe_own c_first_without hr_first_without rfl (pa_cons (pv 0) (pa_cons (pv 2) pa_nil)))) (pss_one (ps_if (pt_cmp (pc_notN (pv 3))) (pss_one (ps_ret (pv 3))) pss_nil)))) (pss_one (ps_ret pe_non))))), ?_⟩
      obtain ⟨a, ks, rfl, hs, hk⟩ := word_at0 hd
      obtain ⟨oa, dx, dw, dr, kw, kr, rfl, h1, h2, h3, h4, h5⟩ := ho.ex
      refine q_when false (fun Q1 q1 => ?_) (fun hb => nomatch hb) (fun _ H1 e1 => ?_)
      · walk_at "rd"
        refine ⟨_, rfl, isi1 hd (kb_str x.dat) ⟨_, rfl, ?_⟩⟩
        rw [isStr_no]
        exact q1 H (Same.refl _)
      refine q_when false (fun Q1 q1 => ?_) (fun hb => nomatch hb) (fun _ H2 e2 => ?_)
      · walk_at "rd"
        refine ⟨_, rfl, a, _, 0, _, rfl, rfl, Same.tupL e1 hs, atI_nat (j := 0) rfl, ?_⟩
        refine ⟨_, rfl, oa, C, dx, _, _, rfl, e1 _ _ h1, T.cl, T.nR, oflds_r dw dr, dr, _, rfl, DGet.k (k := Sum.inr x.nm) (e1 _ _ h3), _, rfl, ?_⟩
        rw [h5]
        exact q1 H1 (Same.refl _)
      have s2 := e1.trans e2
      refine (show tFor _ _ _ _ _ _ from ?_)
      refine rd_for ?_
      walk_at "rd"
      refine ⟨_, rfl, 1, rfl, a, _, rfl, Same.tupL s2 hs, fun q => absurd q (cut1_ne _ _), fun _ p hp => ?_⟩
      rw [cut1]
      refine ⟨p, rfl, ⟨_, .inl (.inl upd_same)⟩, ?_⟩
      have s3 : Same H (upd H2 p (.tup ks)) := s2.trans (same_new hp _)
      refine forp (src_tup (.inl (.inl upd_same))) (fun i σ H' => ∃ u v', σ = [some (.ref oa), some (.ref a), u, v'] ∧ Same (upd H2 p (.tup ks)) H') ⟨none, none, rfl, Same.refl _⟩ (fun i σ H' ⟨_, _, _, e⟩ => e) (fun i y σ' H' H'' hi hp' e' r => ?_) (fun σ' H' hp' => ?_)
      · obtain ⟨u, v', rfl, e⟩ := hp'
        have s4 := s3.trans (e.trans e')
        obtain ⟨xi, hxi, hyi, hti⟩ := kid_at (DpAll.same s4 hk) r
        walk_at "rd"
        refine ⟨_, rfl, _, rfl, .ref oa, y, xi, wt, rk, rfl, ho.same s4, hyi, by omega, fun H5 e5 => ?_⟩
        refine ⟨_, rfl, _, rfl, ?_⟩
        refine iteF ?_
        exact ⟨_, _, rfl, e.trans (e'.trans e5)⟩
      · obtain ⟨u, v', rfl, e⟩ := hp'
        exact k H' (s3.trans e)
abbrev st_weight_in : Stmt := top 24
theorem sc_weight_in : FnScope ["order", "word", "part"] ["order", "word"] (defScope st_weight_in) := ⟨rfl, rfl, rfl, by decide +kernel, rfl, by decide +kernel, by decide +kernel⟩
def spWeightIn (K : PySem.W.Frag) (C : Addr) (n : Nat) : Sp := fun vs H Q _ => ∃ o v x wt rk, vs = [o, v] ∧ OrdAt C H o wt rk ∧ Dp K H v (W.dat x) ∧ x.ht < n ∧ ∀ H', Same H H' → Q (.int (x.wgt wt)) H'
theorem ok_weight_in (G : Glob K mg) {C : Addr} (T : OTxt K mg C) (D : Def K mg "weight_in" st_weight_in ["order", "word"]) : ∀ n, Callee P w K mg base (n + 1) "weight_in" ["order", "word"] (spWeightIn K C n)
  | 0 => by
    obtain ⟨f, fd, F, b, m⟩ := D.ex
    refine ⟨f, fd, F.ok sc_weight_in (fun vs H Q E h => ?_) (fun cdv A outer s H vs Q E hr h => ?_), b, F.kp, m⟩
    · obtain ⟨o, v, x, wt, rk, rfl, _⟩ := h
      rfl
    · obtain ⟨o, v, x, wt, rk, rfl, _, _, h, _⟩ := h
      exact absurd h (Nat.not_lt_zero _)
  | n + 1 => by
    have c_weight_in := ok_weight_in G T D n
    obtain ⟨f, fd, F, b, m⟩ := D.ex
    have z_isinstance := G.isinstance
    have z_str := G.str
    have z_sum := G.sum
    refine ⟨f, fd, F.ok sc_weight_in (fun vs H Q E h => ?_) (fun cdv A outer s H vs Q E hr h => ?_), b, F.kp, m⟩
    · obtain ⟨o, v, x, wt, rk, rfl, _⟩ := h
      rfl
    · obtain ⟨o, v, x, wt, rk, rfl, ho, hd, hx, k⟩ := h
      have hr_weight_in := hr
      have hu := hu_of hr
      refine ⟨_, (pss_cons (ps_if (pt_val (pe_callB call_isi rfl z_isinstance boot_isinstance (pa_cons (pv 1) (pa_cons (pe_bltn (v := .ty "str") rfl z_str boot_str rfl) pa_nil)))) (pss_one (ps_ret pe_int)) pss_nil) (pss_one (ps_ret (pe_op op_add (pe_dget hu (pe_fld (pv 0) rfl) (pe_ix ix_tup (pv 1) pe_int (fun _ _ => rfl)) (fun _ _ => rfl)) (pe_callB (cr_sum rfl) rfl z_sum boot_sum (pa_cons (pe_lc (own := [("part", 2)]) (g := (gName 2)) (tt := tYes) rfl sc_weight_in.nd (pi_tup (pe_slice sl_tupA (pv 1) (po_some pe_int) po_none)) (blkOk_by (N := ["order", "word", "part"]) (sc := defScope st_weight_in) (by decide +kernel)) (fun _ _ _ _ _ => (pg_name (i := 2) sc_weight_in.nd rfl (Or.inl rfl))) (fun _ _ _ _ _ => pts_nil) (fun _ _ _ _ _ => (pe_own c_weight_in hr_weight_in rfl (pa_cons (pv 0) (pa_cons (pv 2) pa_nil))))) pa_nil)))))), ?_⟩
      obtain ⟨a, ks, rfl, hs, hk⟩ := word_at0 hd
      obtain ⟨oa, dx, dw, dr, kw, kr, rfl, h1, h2, h3, h4, h5⟩ := ho.ex
      refine q_when false (fun Q1 q1 => ?_) (fun hb => nomatch hb) (fun _ H1 e1 => ?_)
      · walk_at "rd"
        refine ⟨_, rfl, isi1 hd (kb_str x.dat) ⟨_, rfl, ?_⟩⟩
        rw [isStr_no]
        exact q1 H (Same.refl _)
      walk_at "rd"
      refine ⟨_, rfl, oa, C, dx, _, _, rfl, e1 _ _ h1, T.cl, T.nW, oflds_w dw dr, _, rfl, a, _, 0, _, rfl, rfl, Same.tupL e1 hs, atI_nat (j := 0) rfl, dw, .int (wt x.nm), rfl, ?_, ?_⟩
      · have := DGet.k (k := Sum.inr x.nm) (e1 _ _ h2)
        rw [h4] at this
        exact this
      refine rd_lc ?_
      refine ⟨_, rfl, 1, rfl, a, _, rfl, Same.tupL e1 hs, fun q => absurd q (cut1_ne _ _), fun _ p hp => ?_⟩
      rw [cut1]
      refine ⟨p, rfl, ⟨_, .inl (.inl upd_same)⟩, ?_⟩
      have s3 : Same H (upd H1 p (.tup ks)) := e1.trans (same_new hp _)
      refine lcp (K := K) (N := no0) (tr0 _) (src_tup (.inl (.inl upd_same))) (by have := W.kids_len x; have := kids_lk hk; omega) (fun _ => true) (fun i => ((x.kids.map fun z => PyData.int (z.wgt wt))).getD i .none) (fun i y H' N' Q2 Q3 hi e r tr hs' q2 q3 => ?_) (fun Dl H3 ys nD e3 hy da => ?_)
      · have s4 := s3.trans e
        obtain ⟨xi, hxi, hyi, hti⟩ := kid_at (DpAll.same s4 hk) r
        refine ⟨rfl, ?_⟩
        walk_at "rd"
        refine iteT ?_
        refine ⟨_, rfl, _, rfl, .ref oa, y, xi, wt, rk, rfl, ho.same s4, hyi, by omega, fun H5 e5 => q2 _ _ e5 rfl ?_⟩
        rw [List.getD_eq_getElem?_getD, List.getElem?_map, hxi]
        exact .int _
      · have ed : ((List.range ks.length).filter (fun _ => true)).map (fun i => ((x.kids.map fun z => PyData.int (z.wgt wt))).getD i PyData.none) = (x.kids.map (W.wgt wt)).map PyData.int := by
          have := map_range (x.kids.map fun z => PyData.int (z.wgt wt)) id PyData.none
          rw [List.length_map, List.map_id] at this
          rw [kids_lk hk, List.map_map]
          exact this
        rw [ed] at da
        have ey := DpAll.ints da
        refine ⟨Dl, _, rfl, .inl (.inl (by rw [hy, ey])), _, _, rfl, rfl, ?_⟩
        have := k H3 (s3.trans e3)
        rw [W.wgt_eq] at this
        exact this
abbrev st_counted : Stmt := top 25
theorem sc_counted : FnScope ["word", "known", "part"] ["word", "known"] (defScope st_counted) := ⟨rfl, rfl, rfl, by decide +kernel, rfl, by decide +kernel, by decide +kernel⟩
def spCounted (K : PySem.W.Frag) (n : Nat) : Sp := fun vs H Q _ => ∃ d v x, vs = [v, d] ∧ Dp K H v (W.dat x) ∧ x.ht < n ∧ ∀ H', Same H H' → Q d H'
theorem ok_counted (G : Glob K mg) (D : Def K mg "counted" st_counted ["word", "known"]) : ∀ n, Callee P w K mg base (n + 1) "counted" ["word", "known"] (spCounted K n)
  | 0 => by
    obtain ⟨f, fd, F, b, m⟩ := D.ex
    refine ⟨f, fd, F.ok sc_counted (fun vs H Q E h => ?_) (fun cdv A outer s H vs Q E hr h => ?_), b, F.kp, m⟩
    · obtain ⟨d, v, x, rfl, _⟩ := h
      rfl
    · obtain ⟨d, v, x, rfl, _, h, _⟩ := h
      exact absurd h (Nat.not_lt_zero _)
  | n + 1 => by
    have c_counted := ok_counted G D n
    obtain ⟨f, fd, F, b, m⟩ := D.ex
    have z_isinstance := G.isinstance
    have z_str := G.str
    refine ⟨f, fd, F.ok sc_counted (fun vs H Q E h => ?_) (fun cdv A outer s H vs Q E hr h => ?_), b, F.kp, m⟩
    · obtain ⟨d, v, x, rfl, _⟩ := h
      rfl
    · obtain ⟨d, v, x, rfl, hd, hx, k⟩ := h
      have hr_counted := hr
      have hu := hu_of hr
      refine ⟨_, (pss_cons (ps_if (pt_val (pe_callB call_isi rfl z_isinstance boot_isinstance (pa_cons (pv 0) (pa_cons (pe_bltn (v := .ty "str") rfl z_str boot_str rfl) pa_nil)))) pss_never (pss_one (ps_for PassesOwn.never rfl (pi_tup (pe_slice sl_tupA (pv 0) (po_some pe_int) po_none)) (pg_name (i := 2) sc_counted.nd rfl (Or.inl rfl)) (pss_one (ps_expr (pe_own c_counted hr_counted rfl (pa_cons (pv 2) (pa_cons (pv 1) pa_nil)))))))) (pss_one (ps_ret (pv 1)))), ?_⟩
      obtain ⟨a, ks, rfl, hs, hk⟩ := word_at0 hd
      refine q_if false (fun Q1 q1 => ?_) (fun hb => nomatch hb) (fun _ H1 e1 => ?_)
      · walk_at "rd"
        refine ⟨_, rfl, isi1 hd (kb_str x.dat) ⟨_, rfl, ?_⟩⟩
        rw [isStr_no]
        exact q1 H (Same.refl _)
      refine rd_for ?_
      walk_at "rd"
      refine ⟨_, rfl, 1, rfl, a, _, rfl, Same.tupL e1 hs, fun q => absurd q (cut1_ne _ _), fun _ p hp => ?_⟩
      rw [cut1]
      refine ⟨p, rfl, ⟨_, .inl (.inl upd_same)⟩, ?_⟩
      have s3 : Same H (upd H1 p (.tup ks)) := e1.trans (same_new hp _)
      refine forp (src_tup (.inl (.inl upd_same))) (fun i σ H' => ∃ u, σ = [some (.ref a), some d, u] ∧ Same (upd H1 p (.tup ks)) H') ⟨none, rfl, Same.refl _⟩ (fun i σ H' ⟨_, _, e⟩ => e) (fun i y σ' H' H'' hi hp' e' r => ?_) (fun σ' H' hp' => ?_)
      · obtain ⟨u, rfl, e⟩ := hp'
        have s4 := s3.trans (e.trans e')
        obtain ⟨xi, hxi, hyi, hti⟩ := kid_at (DpAll.same s4 hk) r
        walk_at "rd"
        refine ⟨_, rfl, _, rfl, d, y, xi, rfl, hyi, by omega, fun H5 e5 => ?_⟩
        exact ⟨_, rfl, e.trans (e'.trans e5)⟩
      · obtain ⟨u, rfl, e⟩ := hp'
        exact ⟨_, rfl, k H' (s3.trans e)⟩
end
end K29

-- text: Defs5
set_option linter.all false
set_option maxRecDepth 100000
set_option maxHeartbeats 4000000
namespace K29
open PySem PySem.Spec PyProof.Rows L2 DB
local macro_rules | `(tactic| walk_at "rd") => `(tactic| (dsimp only [cxOf, Cx.nox, L2.start, tRet, tRetN, tCB, tCons, tNil, tC, tVar, tTup, tLst, tB, tTest, tAnd, tOr, tNot, tAndV, tOrV, tNotV, tIfS, tIf, tSeq, tNext, tDrop, tOp, tUn, tAsg, gName, gSub, tSl, tPart, tNoPart, tCall, tPar, tBM, tChain, tYes, StX.tStar, tFld, tNotN, tIsN, tDNotIn, tDIn, tDGet, tDGet2, tDNewK, List.length_cons, List.length_nil, List.set_cons_zero, List.set_cons_succ, List.nil_append, List.cons_append, List.append_nil, gTup, gCons, gNil, tLockE, iKeys, XR.iZipTN]))
section
variable {P : Program} {w : World} {K : PySem.W.Frag} {mg : Str → Option Value} {base : Heap}

structure Src2 (J : It) (H1 : Hp) (n : Nat) (R : Nat → V → Hp → Hp → Prop) : Prop where
  go : ∀ i H', Same H1 H' → i < n → J.go i H'
  stop : ∀ H', Same H1 H' → J.stop n H'
  yld : ∀ i H' x H'', Same H1 H' → i < n → J.yld i H' x H'' → Same H' H'' ∧ R i x H' H''
theorem src_zipT2 {K : PySem.W.Frag} {H1 : Hp} {a b : Addr} {xs ys : List V} (h : SqT K H1 a xs) (h' : SqT K H1 b ys) (hl : xs.length = ys.length) : Src2 (RZ.ItzT K a b) H1 xs.length (fun i x Hb H' => ∃ T u v, Hb T = none ∧ x = .ref T ∧ H' T = some (.tup [u, v]) ∧ xs[i]? = some u ∧ ys[i]? = some v) where
  go := fun i H' e hi => ⟨xs, ys, xs[i], ys[i], Same.tupL e h, Same.tupL e h', by simp [hi], by simp [show i < ys.length by omega]⟩
  stop := fun H' e => ⟨xs, ys, Same.tupL e h, Same.tupL e h', .inl (Nat.le_refl _)⟩
  yld := fun i H' x H'' e hi y => by
    obtain ⟨T, u, v, rfl, hT, rfl, f1, f2⟩ := y
    exact ⟨same_new hT _, T, u, v, hT, rfl, upd_same, f1 xs (Same.tupL e h), f2 ys (Same.tupL e h')⟩
/-- a list comprehension whose elements are data; nothing that stood changes -/
theorem lcp2 {K : PySem.W.Frag} {J : It} {H1 : Hp} {n : Nat} {R : Nat → V → Hp → Hp → Prop} {g : TG} {tt : TT} {te : TE} {vs : List Nat} {σ : L2.St} {Q : VK} {N : Addr → Prop} (hN : Tr N H1) (S : Src2 J H1 n R) (hn : n ≤ 100000) (keep : Nat → Bool) (ds : Nat → PyData)
    (step : ∀ (i : Nat) (x : V) (Hb H' : Hp) (N' : Addr → Prop) (Q2 : VK) (Q3 : Hp → Prop), i < n → Same H1 H' → R i x Hb H' → Tr N' Hb → Same (hide N H1) (hide N' H') →
      (∀ y H4, Same H' H4 → keep i = true → Dp K (hide N' H4) y (ds i) → Q2 y H4) → (∀ H4, Same H' H4 → keep i = false → Q3 H4) →
      g x (wipe σ vs) H' fun σ2 H2 => wipe σ2 vs = wipe σ vs ∧ tt σ2 H2 fun b H3 => if b = true then te σ2 H3 Q2 else Q3 H3)
    (fin : ∀ D H2 ys, H1 D = none → Same H1 H2 → H2 D = some (.lst ys) → DpAll K (hide N H2) ys (((List.range n).filter keep).map ds) → Q (.ref D) H2) :
    LcR J H1 g tt te vs σ Q := by
  intro D hD
  let I : Nat → Hp → Prop := fun i H => Same H1 H ∧ ∃ ys, H D = some (.lst ys) ∧ ys.length ≤ i ∧ DpAll K (hide (plus N D) H) ys (((List.range i).filter keep).map ds)
  refine ⟨fun i m H => m = n - i ∧ i ≤ n ∧ I i H, ⟨n, rfl, Nat.zero_le _, same_new hD _, [], upd_same, Nat.le_refl _, .nil⟩, ?_⟩
  rintro i m H ⟨rfl, hi, e, ys, hy, hl, da⟩
  by_cases hlt : i < n
  · refine .inr ⟨S.go i H e hlt, I (i + 1), fun H' h => ⟨n - (i + 1), by omega, rfl, hlt, h⟩, fun x H' y => ?_⟩
    obtain ⟨e', r⟩ := S.yld i H x H' e hlt y
    have e1 : Same H1 H' := e.trans e'
    have hD' : H' D = some (.lst ys) := e' _ _ hy
    have tr : Tr (plus N D) H := fun a z => by
      rcases z with rfl | z
      · rw [hy]; exact fun q => nomatch q
      · exact (hN.same e) a z
    refine step i x H H' (plus N D) _ _ hlt e1 r tr (plus_same hD e1) (fun y H4 e4 hk hd => ⟨ys, e4 _ _ hD', ?_, ?_⟩) (fun H4 e4 hk => ?_)
    · exact Nat.lt_of_le_of_lt (Nat.le_trans hl (Nat.le_trans (Nat.le_of_lt hlt) hn)) (by decide)
    · refine ⟨same_upd hD (e1.trans e4) _, ys ++ [y], upd_same, by rw [List.length_append]; exact Nat.succ_le_succ hl, ?_⟩
      have ek : ((List.range (i + 1)).filter keep).map ds = ((List.range i).filter keep).map ds ++ [ds i] := by
        rw [List.range_succ, List.filter_append, List.map_append]
        simp [hk]
      rw [ek]
      exact DpAll.app (DpAll.same (fun a o q => plus_upd a o (hide_mono (e'.trans e4) a o q)) da) (.cons (Dp.same plus_upd hd) .nil)
    · have ek : ((List.range (i + 1)).filter keep).map ds = ((List.range i).filter keep).map ds := by
        rw [List.range_succ, List.filter_append, List.map_append]
        simp [hk]
      refine ⟨e1.trans e4, ys, e4 _ _ hD', Nat.le_succ_of_le hl, ?_⟩
      rw [ek]
      exact DpAll.same (hide_mono (e'.trans e4)) da
  · have ei : i = n := by omega
    subst ei
    exact .inl ⟨S.stop H e, fin D H ys hD e hy (DpAll.same plus_down da)⟩
namespace W
theorem wgt_def (wt : Str → Int) (x : W) : ∃ v : Int, v = x.wgt wt := ⟨_, rfl⟩
/-- the first pair of unlike parts -/
theorem kabv_first (wt : Str → Int) (rk : Str → Nat) {x y : W} (h : x.nm = y.nm) (hn : x ≠ y) : x.kids.length = y.kids.length ∧ ∃ i r xi yi, (List.range x.kids.length).filter (fun i => !decide (x.kids[i]? = y.kids[i]?)) = i :: r ∧ x.kids[i]? = some xi ∧ y.kids[i]? = some yi ∧ kabv wt rk x y = abv wt rk xi yi := by
  rcases same_name h with ⟨l, r⟩ | ⟨l, r⟩ | ⟨u, v, l, r⟩ | ⟨u, v, l, r⟩ | ⟨u, v, u', v', l, r⟩
  · exact absurd (l.trans r.symm) hn
  · exact absurd (l.trans r.symm) hn
  · subst l r
    refine ⟨rfl, 0, [], u, v, ?_, rfl, rfl, rfl⟩
    have : u ≠ v := fun q => hn (by rw [q])
    simp [kids, List.range_succ, this]
  · subst l r
    refine ⟨rfl, 0, [], u, v, ?_, rfl, rfl, rfl⟩
    have : u ≠ v := fun q => hn (by rw [q])
    simp [kids, List.range_succ, this]
  · subst l r
    by_cases e : u = u'
    · have : v ≠ v' := fun q => hn (by rw [q, e])
      refine ⟨rfl, 1, [], v, v', ?_, rfl, rfl, ?_⟩
      · simp [kids, List.range_succ, this, e]
      · simp [kabv, e]
    · refine ⟨rfl, 0, if v = v' then [] else [1], u, u', ?_, rfl, rfl, ?_⟩
      · by_cases e2 : v = v'
        · simp [kids, List.range_succ, e, e2]
        · simp [kids, List.range_succ, e, e2]
      · simp [kabv, e]
def cmp (wt : Str → Int) (rk : Str → Nat) (x y : W) : Str := if x = y then "same" else if abv wt rk x y = true then "above" else if abv wt rk y x = true then "below" else "none"
end W

theorem q_seq {u z : TS} {D : Ends} {σ : L2.St} {H : Hp} (Pv : L2.St → Hp → Prop) (h : ∀ N : L2.St → Hp → Prop, (∀ σ' H', Pv σ' H' → N σ' H') → u { D with nx := N } σ H) (h2 : ∀ σ' H', Pv σ' H' → z D σ' H') : tSeq u z D σ H := h (z D) h2
abbrev st_is_above : Stmt := top 26
theorem sc_is_above : FnScope ["order", "one", "other", "many", "few", "heavy", "light", "unlike", "variable", "pair"] ["order", "one", "other"] (defScope st_is_above) := ⟨rfl, rfl, rfl, by decide +kernel, rfl, by decide +kernel, by decide +kernel⟩
def spIsAbove (K : PySem.W.Frag) (C : Addr) (n : Nat) : Sp := fun vs H Q _ => ∃ o v1 v2 x y wt rk, vs = [o, v1, v2] ∧ OrdAt C H o wt rk ∧ Dp K H v1 (W.dat x) ∧ Dp K H v2 (W.dat y) ∧ x.ht < n ∧ y.ht < n ∧ ∀ H', Same H H' → Q (.bl (W.abv wt rk x y)) H'
theorem ok_is_above (G : Glob K mg) {C : Addr} (T : OTxt K mg C) (D : Def K mg "is_above" st_is_above ["order", "one", "other"]) {M : Nat} (hm : M ≤ 50) (c_counted0 : Callee P w K mg base (M + 1) "counted" ["word", "known"] (spCounted K M)) (c_weight_in0 : Callee P w K mg base (M + 1) "weight_in" ["order", "word"] (spWeightIn K C M)) : ∀ n, n ≤ M → Callee P w K mg base (n + M + 2) "is_above" ["order", "one", "other"] (spIsAbove K C n)
  | 0, _ => by
    obtain ⟨f, fd, F, b, m⟩ := D.ex
    refine ⟨f, fd, F.ok sc_is_above (fun vs H Q E h => ?_) (fun cdv A outer s H vs Q E hr h => ?_), b, F.kp, m⟩
    · obtain ⟨o, v1, v2, x, y, wt, rk, rfl, _⟩ := h
      rfl
    · obtain ⟨o, v1, v2, x, y, wt, rk, rfl, _, _, _, h, _⟩ := h
      exact absurd h (Nat.not_lt_zero _)
  | n + 1, hnm => by
    have c_is_above := ok_is_above G T D hm c_counted0 c_weight_in0 n (by omega)
    have c_counted := c_counted0
    have c_weight_in := c_weight_in0
    obtain ⟨f, fd, F, b, m⟩ := D.ex
    have z_isinstance := G.isinstance
    have z_str := G.str
    have z_all := G.all
    have z_zip := G.zip
    have eL : n + 1 + M + 2 = (n + M + 2) + 1 := by omega
    rw [eL]
    refine ⟨f, fd, F.ok sc_is_above (fun vs H Q E h => ?_) (fun cdv A outer s H vs Q E hr h => ?_), b, F.kp, m⟩
    · obtain ⟨o, v1, v2, x, y, wt, rk, rfl, _⟩ := h
      rfl
    · obtain ⟨o, v1, v2, x, y, wt, rk, rfl, ho, hd1, hd2, hx, hy, k⟩ := h
      have hr_is_above := hr
      have hr_counted := hr.mono (show M + 1 ≤ n + M + 2 by omega)
      have hr_weight_in := hr.mono (show M + 1 ≤ n + M + 2 by omega)
      have hu := hu_of hr
      have hu64 : (A.deeper (envOfC "is_above" (defScope st_is_above) s.heap.objs.size f cdv)).units + 64 < cLine := by have := hr.un; omega
      refine ⟨_, (pss_cons (ps_if (PW.pt (pw_or (pt_cmpR (op_eqD hu64) (pv 1) (pv 2) (nomark _)) (pw_or1 (pt_val (pe_callB call_isi rfl z_isinstance boot_isinstance (pa_cons (pv 1) (pa_cons (pe_bltn (v := .ty "str") rfl z_str boot_str rfl) pa_nil))))))) (pss_one (ps_ret pe_bl)) pss_nil) (pss_cons (ps_asg (pe_tup (pa_cons (pe_own c_counted hr_counted rfl (pa_cons (pv 1) (pa_cons pe_dnewK pa_nil))) (pa_cons (pe_own c_counted hr_counted rfl (pa_cons (pv 2) (pa_cons pe_dnewK pa_nil))) pa_nil))) (pg_tup rfl (pgs_cons (pg_name (i := 3) sc_is_above.nd rfl (Or.inr rfl)) (pgs_cons (pg_name (i := 4) sc_is_above.nd rfl (Or.inr rfl)) pgs_nil)))) (pss_cons (ps_if (pt_not (pt_val (pe_callB (cr_all rfl) rfl z_all boot_all (pa_cons (pe_lock (pe_lc (own := [("variable", 8)]) (g := (gName 8)) (tt := tYes) rfl sc_is_above.nd (pi_keys (pv 4)) (blkOk_by (N := ["order", "one", "other", "many", "few", "heavy", "light", "unlike", "variable", "pair"]) (sc := defScope st_is_above) (by decide +kernel)) (fun _ _ _ _ _ => (pg_name (i := 8) sc_is_above.nd rfl (Or.inl rfl))) (fun _ _ _ _ _ => pts_nil) (fun _ _ _ _ _ => (pe_cmpR op_ge (pe_dget2 hu (pv 3) (pv 8) pe_int ⟨rfl, rfl, rfl, rfl⟩) (pe_dget hu (pv 4) (pv 8) (fun _ _ => rfl)) (nomark _))))) pa_nil)))) (pss_one (ps_ret pe_bl)) pss_nil) (pss_cons (ps_par (i := 5) (j := 6) rfl sc_is_above.nd rfl rfl (by decide) rfl rfl (pa_cons (pe_own c_weight_in hr_weight_in rfl (pa_cons (pv 0) (pa_cons (pv 1) pa_nil))) (pa_cons (pe_own c_weight_in hr_weight_in rfl (pa_cons (pv 0) (pa_cons (pv 2) pa_nil))) pa_nil)) rfl) (pss_cons (ps_if (PW.pt (pw_or (pt_cmpR op_ne (pv 5) (pv 6) (nomark _)) (pw_or1 (pt_val (pe_callB call_isi rfl z_isinstance boot_isinstance (pa_cons (pv 2) (pa_cons (pe_bltn (v := .ty "str") rfl z_str boot_str rfl) pa_nil))))))) (pss_one (ps_ret (pe_cmpR op_gt (pv 5) (pv 6) (nomark _)))) pss_nil) (pss_cons (ps_if (pt_cmpR op_ne (pe_ix ix_tup (pv 1) pe_int (fun _ _ => rfl)) (pe_ix ix_tup (pv 2) pe_int (fun _ _ => rfl)) (nomark _)) (pss_one (ps_ret (pe_cmpR op_gt (pe_dget hu (pe_fld (pv 0) rfl) (pe_ix ix_tup (pv 1) pe_int (fun _ _ => rfl)) (fun _ _ => rfl)) (pe_dget hu (pe_fld (pv 0) rfl) (pe_ix ix_tup (pv 2) pe_int (fun _ _ => rfl)) (fun _ _ => rfl)) (nomark _)))) pss_nil) (pss_cons (ps_setLc (i := 7) (own := [("pair", 9)]) (g := (gName 9)) rfl sc_is_above.nd rfl rfl (sw_true rfl rfl rfl (by decide +kernel)) (XR.pi_zipTN rfl z_zip (pa_cons (pe_slice sl_tupA (pv 1) (po_some pe_int) po_none) (pa_cons (pe_slice sl_tupA (pv 2) (po_some pe_int) po_none) pa_nil))) (blkOk_by (N := ["order", "one", "other", "many", "few", "heavy", "light", "unlike", "variable", "pair"]) (sc := defScope st_is_above) (by decide +kernel)) (fun _ _ _ _ _ => (pg_name (i := 9) sc_is_above.nd rfl (Or.inl rfl))) (fun _ _ _ _ _ => (pts_one (pt_cmpR (show OpR _ _ (rNeD K) from (op_neD hu64)) (pe_ix (show IxR _ (rIxT K) from ix_tup) (pv 9) pe_int (fun _ _ => rfl)) (pe_ix (show IxR _ (rIxT K) from ix_tup) (pv 9) pe_int (fun _ _ => rfl)) (nomark _)))) (fun _ _ _ _ _ => (pv 9))) (pss_one (ps_ret (pe_own c_is_above hr_is_above rfl (pa_cons (pv 0) (pa_cons (pe_ix ix_tup (pe_ix ix_list (pv 7) pe_int (fun _ _ => rfl)) pe_int (fun _ _ => rfl)) (pa_cons (pe_ix ix_tup (pe_ix ix_list (pv 7) pe_int (fun _ _ => rfl)) pe_int (fun _ _ => rfl)) pa_nil))))))))))))), ?_⟩
      have sx : SeqAt.shaped x.dat = true := W.shaped_dat (by omega)
      have sy : SeqAt.shaped y.dat = true := W.shaped_dat (by omega)
      refine q_when (decide (x = y)) (fun Q1 q1 => ?_) (fun hb H1 e1 => ?_) (fun hb H1 e1 => ?_)
      · walk_at "rd"
        refine ⟨_, rfl, _, rfl, _, _, hd1, hd2, sx, sy, _, rfl, ?_⟩
        rw [W.eqv_dat]
        refine ite_b (fun q => ?_) (fun q => ?_)
        · have := q1 H (Same.refl _)
          rw [q] at this
          exact this
        · refine ⟨_, rfl, isi1 hd1 (kb_str x.dat) ⟨_, rfl, ?_⟩⟩
          rw [isStr_no]
          have := q1 H (Same.refl _)
          rw [q] at this
          exact this
      · have e := of_decide_eq_true hb
        subst e
        have := k H1 e1
        rw [W.abv_irr] at this
        exact this
      have hxy : x ≠ y := of_decide_eq_false hb
      refine q_seq (fun σ' H' => ∃ p1 p2, σ' = [some o, some v1, some v2, some (.ref p1), some (.ref p2), none, none, none, none, none] ∧ Same H H' ∧ H' p1 = some (.dK []) ∧ H' p2 = some (.dK [])) (fun Z z => ?_) (fun σ4 H4 hp4 => ?_)
      · walk_at "rd"
        refine ⟨_, rfl, fun p1 hp1 => ?_⟩
        refine ⟨_, _, _, rfl, Dp.same (e1.trans (same_new hp1 _)) hd1, by omega, fun H2 e2 => ?_⟩
        have s2 : Same H H2 := (e1.trans (same_new hp1 _)).trans e2
        refine ⟨_, rfl, fun p2 hp2 => ?_⟩
        refine ⟨_, _, _, rfl, Dp.same (s2.trans (same_new hp2 _)) hd2, by omega, fun H3 e3 => ?_⟩
        refine ⟨by decide, fun p3 hp3 => ?_⟩
        have s3 : Same H H3 := (s2.trans (same_new hp2 _)).trans e3
        have k1 : H3 p1 = some (.dK []) := e3 _ _ (same_new hp2 _ _ _ (e2 _ _ upd_same))
        have k2 : H3 p2 = some (.dK []) := e3 _ _ upd_same
        refine ⟨p3, _, rfl, .inl (.inl upd_same), rfl, ?_⟩
        refine ⟨_, _, rfl, _, _, rfl, rfl, ?_⟩
        exact z _ _ ⟨p1, p2, rfl, s3.trans (same_new hp3 _), same_new hp3 _ _ _ k1, same_new hp3 _ _ _ k2⟩
      obtain ⟨p1, p2, rfl, s4, k1', k2'⟩ := hp4
      refine q_when false (fun Q1 q1 => ?_) (fun hb => nomatch hb) (fun _ H5 e5 => ?_)
      · walk_at "rd"
        refine ⟨p2, _, k2', trivial, fun od => ?_⟩
        refine rd_lc ?_
        walk_at "rd"
        refine ⟨_, rfl, p2, od, rfl, .inl ⟨_, upd_same, ?_⟩⟩
        have fz : upd H4 p2 (.frz od (.dK [])) p2 = some (.frz od (.dK [])) := upd_same
        refine lcp (K := K) (N := no0) (tr0 _) (src_keys upd_same) (Nat.zero_le _) (fun _ => true) (fun _ => PyData.none) (fun i y H' N' Q2 Q3 hi e r tr hs' q2 q3 => absurd hi (Nat.not_lt_zero _)) (fun Dl H6 ys nD e6 hy6 da => ?_)
        refine ⟨e6 _ _ fz, ?_⟩
        cases da
        have e7 : Same H4 (upd H6 p2 (.dK [])) := fun a o q => by
          by_cases ea : a = p2
          · subst ea
            rw [k2'] at q
            cases q
            exact upd_same
          · rw [upd_ne ea]
            exact e6 _ _ (by rw [upd_ne ea]; exact q)
        have nd : Dl ≠ p2 := fun q => by subst q; rw [fz] at nD; cases nD
        refine ⟨Dl, [], rfl, .inl (.inl (by rw [upd_ne nd]; exact hy6)), _, rfl, ?_⟩
        exact q1 _ e7
      have s5 := s4.trans e5
      refine q_seq (fun σ' H' => σ' = [some o, some v1, some v2, some (.ref p1), some (.ref p2), some (.int (x.wgt wt)), some (.int (y.wgt wt)), none, none, none] ∧ Same H H') (fun Z z => ?_) (fun σ7 H7 hp7 => ?_)
      · walk_at "rd"
        refine ⟨_, rfl, _, rfl, _, _, _, _, _, rfl, ho.same s5, Dp.same s5 hd1, by omega, fun H6 e6 => ?_⟩
        have s6 := s5.trans e6
        refine ⟨_, rfl, _, rfl, _, _, _, _, _, rfl, ho.same s6, Dp.same s6 hd2, by omega, fun H7 e7 => ?_⟩
        have s7 := s6.trans e7
        refine ⟨_, _, rfl, ?_⟩
        exact z _ _ ⟨rfl, s7⟩
      obtain ⟨rfl, s7⟩ := hp7
      refine q_when (decide (x.wgt wt ≠ y.wgt wt)) (fun Q1 q1 => ?_) (fun hb H8 e8 => ?_) (fun hb H8 e8 => ?_)
      · walk_at "rd"
        refine ⟨_, rfl, _, rfl, rfl, _, rfl, ?_⟩
        have ee : (!decide (V.int (x.wgt wt) = V.int (y.wgt wt))) = decide (x.wgt wt ≠ y.wgt wt) := by
          by_cases q : x.wgt wt = y.wgt wt
          · rw [q]; simp
          · have : V.int (x.wgt wt) ≠ V.int (y.wgt wt) := fun z => q (V.int.inj z)
            simp [q, this]
        rw [ee]
        refine ite_b (fun q => ?_) (fun q => ?_)
        · have := q1 H7 (Same.refl _)
          rw [q] at this
          exact this
        · refine ⟨_, rfl, isi1 (Dp.same s7 hd2) (kb_str y.dat) ⟨_, rfl, ?_⟩⟩
          rw [isStr_no]
          have := q1 H7 (Same.refl _)
          rw [q] at this
          exact this
      · walk_at "rd"
        refine ⟨_, rfl, _, rfl, _, _, rfl, rfl, ?_⟩
        have := k H8 (s7.trans e8)
        rw [W.abv_eq, if_pos (of_decide_eq_true hb)] at this
        exact this
      have hw : ¬ x.wgt wt ≠ y.wgt wt := of_decide_eq_false hb
      have s8 := s7.trans e8
      obtain ⟨a1, ks1, rfl, hs1, hk1⟩ := word_at0 hd1
      obtain ⟨a2, ks2, rfl, hs2, hk2⟩ := word_at0 hd2
      refine q_when (decide (x.nm ≠ y.nm)) (fun Q1 q1 => ?_) (fun hb H9 e9 => ?_) (fun hb H9 e9 => ?_)
      · walk_at "rd"
        refine ⟨_, rfl, a1, _, 0, _, rfl, rfl, Same.tupL s8 hs1, atI_nat (j := 0) rfl, _, rfl, a2, _, 0, _, rfl, rfl, Same.tupL s8 hs2, atI_nat (j := 0) rfl, rfl, _, rfl, ?_⟩
        have ee : (!decide (V.str x.nm = V.str y.nm)) = decide (x.nm ≠ y.nm) := by
          by_cases q : x.nm = y.nm
          · rw [q]; simp
          · have : V.str x.nm ≠ V.str y.nm := fun z => q (V.str.inj z)
            simp [q, this]
        rw [ee]
        exact q1 _ (Same.refl _)
      · walk_at "rd"
        have s9 := s8.trans e9
        obtain ⟨oa, dx, dw, dr, kw, kr, rfl, h1, h2, h3, h4, h5⟩ := ho.ex
        refine ⟨_, rfl, oa, C, dx, _, _, rfl, s9 _ _ h1, T.cl, T.nR, oflds_r dw dr, ?_⟩
        refine ⟨_, rfl, a1, _, 0, _, rfl, rfl, Same.tupL s9 hs1, atI_nat (j := 0) rfl, ?_⟩
        have g1 := DGet.k (k := Sum.inr x.nm) (s9 _ _ h3)
        rw [h5] at g1
        refine ⟨dr, _, rfl, g1, ?_⟩
        refine ⟨_, rfl, oa, C, dx, _, _, rfl, s9 _ _ h1, T.cl, T.nR, oflds_r dw dr, ?_⟩
        refine ⟨_, rfl, a2, _, 0, _, rfl, rfl, Same.tupL s9 hs2, atI_nat (j := 0) rfl, ?_⟩
        have g2 := DGet.k (k := Sum.inr y.nm) (s9 _ _ h3)
        rw [h5] at g2
        refine ⟨dr, _, rfl, g2, ?_⟩
        refine ⟨_, _, rfl, rfl, ?_⟩
        have := k H9 s9
        rw [W.abv_eq, if_neg hw, if_pos (of_decide_eq_true hb)] at this
        show Q (.bl (decide (((rk y.nm : Nat) : Int) < (rk x.nm : Nat)))) H9
        rw [show decide (((rk y.nm : Nat) : Int) < (rk x.nm : Nat)) = decide (rk y.nm < rk x.nm) from by simp]
        exact this
      have hn : x.nm = y.nm := Decidable.not_not.mp (of_decide_eq_false hb)
      have s9 := s8.trans e9
      obtain ⟨lk, i0, r0, xi0, yi0, hf, hxi0, hyi0, hab⟩ := W.kabv_first wt rk hn hxy
      refine q_seq (fun σ' H' => ∃ (l : Addr) (ys : List V), σ' = [some o, some (.ref a1), some (.ref a2), some (.ref p1), some (.ref p2), some (.int (x.wgt wt)), some (.int (y.wgt wt)), some (.ref l), none, none] ∧ Same H H' ∧ H' l = some (.lst ys) ∧ DpAll K H' ys (((List.range x.kids.length).filter (fun i => !decide (x.kids[i]? = y.kids[i]?))).map fun i => PyData.tuple [(x.kids.map W.dat).getD i .none, (y.kids.map W.dat).getD i .none])) (fun Z z => ?_) (fun σ10 H10 hp10 => ?_)
      · walk_at "rd"
        refine rd_lc ?_
        refine ⟨_, rfl, 1, rfl, a1, _, rfl, Same.tupL s9 hs1, fun q => absurd q (cut1_ne _ _), fun _ q1 hq1 => ?_⟩
        rw [cut1]
        have t1 : Same H (upd H9 q1 (.tup ks1)) := s9.trans (same_new hq1 _)
        refine ⟨_, rfl, 1, rfl, a2, _, rfl, Same.tupL t1 hs2, fun q => absurd q (cut1_ne _ _), fun _ q2 hq2 => ?_⟩
        rw [cut1]
        have t2 := t1.trans (same_new hq2 (.tup ks2))
        refine ⟨q1, q2, ks1, ks2, rfl, .inl (.inl (same_new hq2 _ _ _ upd_same)), .inl (.inl upd_same), ?_⟩
        have l1 := kids_lk hk1
        have l2 := kids_lk hk2
        refine lcp2 (K := K) (N := no0) (tr0 _) (src_zipT2 (.inl (.inl (same_new hq2 _ _ _ upd_same))) (.inl (.inl upd_same)) (by omega)) (by have := W.kids_len x; omega) (fun i => !decide (x.kids[i]? = y.kids[i]?)) (fun i => PyData.tuple [(x.kids.map W.dat).getD i .none, (y.kids.map W.dat).getD i .none]) (fun i y' Hb H' N' Q2 Q3 hi e r tr hs' g2 g3 => ?_) (fun Dl H6 ys nD e6 hy6 da => ?_)
        · have t3 := t2.trans e
          obtain ⟨tp, u, v, hbt, rfl, htp, r1, r2⟩ := r
          obtain ⟨xi, hxi, hxd, tx⟩ := kid_at (DpAll.same t3 hk1) r1
          obtain ⟨yi, hyi, hyd, ty⟩ := kid_at (DpAll.same t3 hk2) r2
          walk_at "rd"
          refine ⟨rfl, _, rfl, tp, _, 0, _, rfl, rfl, .inl (.inl htp), atI_nat (j := 0) rfl, _, rfl, tp, _, 1, _, rfl, rfl, .inl (.inl htp), atI_nat (j := 1) rfl, ?_⟩
          refine ⟨_, _, hxd, hyd, W.shaped_dat (by omega), W.shaped_dat (by omega), _, rfl, ?_⟩
          rw [W.eqv_dat]
          have ek : (!decide (x.kids[i]? = y.kids[i]?)) = !decide (xi = yi) := by rw [hxi, hyi]; simp
          refine ite_b (fun q => ?_) (fun q => g3 _ (Same.refl _) (ek.trans q))
          refine ⟨_, rfl, g2 _ _ (Same.refl _) (ek.trans q) ?_⟩
          refine .tup (.inl (.inl ((hide_off (tr.off hbt)).trans htp))) ?_
          have hh1 := DpAll.get (DpAll.same (fun a o q => hs' a o (by rw [hide0]; exact q)) (DpAll.same t2 hk1)) r1
          have hh2 := DpAll.get (DpAll.same (fun a o q => hs' a o (by rw [hide0]; exact q)) (DpAll.same t2 hk2)) r2
          obtain ⟨d1, hd1', hh1⟩ := hh1
          obtain ⟨d2, hd2', hh2⟩ := hh2
          rw [List.getD_eq_getElem?_getD, List.getD_eq_getElem?_getD, hd1', hd2']
          exact .cons hh1 (.cons hh2 .nil)
        · rw [hide0, l1] at da
          exact z _ _ ⟨Dl, ys, rfl, t2.trans e6, hy6, da⟩
      obtain ⟨l, ys, rfl, s10, hl10, da⟩ := hp10
      walk_at "rd"
      rw [hf] at da
      cases da with
      | @cons v _ vs _ dv das =>
      dsimp only at dv
      rw [List.getD_eq_getElem?_getD, List.getD_eq_getElem?_getD, List.getElem?_map, List.getElem?_map, hxi0, hyi0] at dv
      cases dv with
      | @tup ta us _ hta dus =>
      cases dus with
      | @cons u1 _ us _ du1 dus =>
      cases dus with
      | @cons u2 _ us _ du2 dus =>
      cases dus
      have q1 : xi0.ht < x.ht := W.kids_ht (List.mem_of_getElem? hxi0)
      have q2 : yi0.ht < y.ht := W.kids_ht (List.mem_of_getElem? hyi0)
      refine ⟨_, rfl, _, rfl, l, _, 0, _, rfl, rfl, .inl (.inl hl10), atI_nat (j := 0) rfl, ta, _, 0, _, rfl, rfl, hta, atI_nat (j := 0) rfl, ?_⟩
      refine ⟨_, rfl, l, _, 0, _, rfl, rfl, .inl (.inl hl10), atI_nat (j := 0) rfl, ta, _, 1, _, rfl, rfl, hta, atI_nat (j := 1) rfl, ?_⟩
      refine ⟨_, _, _, _, _, _, _, rfl, ho.same s10, du1, du2, by omega, by omega, fun H11 e11 => ?_⟩
      have := k H11 (s10.trans e11)
      rw [W.abv_same wt rk (Decidable.not_not.mp hw) hn, hab] at this
      exact this
abbrev st_compare_in : Stmt := top 27
theorem sc_compare_in : FnScope ["order", "one", "other"] ["order", "one", "other"] (defScope st_compare_in) := ⟨rfl, rfl, rfl, by decide +kernel, rfl, by decide +kernel, by decide +kernel⟩
def spCompareIn (K : PySem.W.Frag) (C : Addr) (n : Nat) : Sp := fun vs H Q _ => ∃ o v1 v2 x y wt rk, vs = [o, v1, v2] ∧ OrdAt C H o wt rk ∧ Dp K H v1 (W.dat x) ∧ Dp K H v2 (W.dat y) ∧ x.ht < n ∧ y.ht < n ∧ ∀ H', Same H H' → Q (.str (W.cmp wt rk x y)) H'
theorem ok_compare_in {C : Addr} (D : Def K mg "compare_in" st_compare_in ["order", "one", "other"]) {n k0 : Nat} (hn : n ≤ 50) (c_is_above : Callee P w K mg base k0 "is_above" ["order", "one", "other"] (spIsAbove K C n)) : Callee P w K mg base (k0 + 1) "compare_in" ["order", "one", "other"] (spCompareIn K C n) := by
  obtain ⟨f, fd, F, b, m⟩ := D.ex
  refine ⟨f, fd, F.ok sc_compare_in (fun vs H Q E h => ?_) (fun cdv A outer s H vs Q E hr h => ?_), b, F.kp, m⟩
  · obtain ⟨o, v1, v2, x, y, wt, rk, rfl, _⟩ := h
    rfl
  · obtain ⟨o, v1, v2, x, y, wt, rk, rfl, ho, hd1, hd2, hx, hy, k⟩ := h
    have hr_is_above := hr
    have hu64 : (A.deeper (envOfC "compare_in" (defScope st_compare_in) s.heap.objs.size f cdv)).units + 64 < cLine := by have := hr.un; omega
    refine ⟨_, (pss_cons (ps_if (pt_cmpR (op_eqD hu64) (pv 1) (pv 2) (nomark _)) (pss_one (ps_ret pe_str)) pss_nil) (pss_cons (ps_if (pt_val (pe_own c_is_above hr_is_above rfl (pa_cons (pv 0) (pa_cons (pv 1) (pa_cons (pv 2) pa_nil))))) (pss_one (ps_ret pe_str)) pss_nil) (pss_one (ps_ret (pe_ifExp (pt_val (pe_own c_is_above hr_is_above rfl (pa_cons (pv 0) (pa_cons (pv 2) (pa_cons (pv 1) pa_nil))))) pe_str pe_str))))), ?_⟩
    walk_at "rd"
    refine ⟨_, rfl, _, rfl, _, _, hd1, hd2, W.shaped_dat (by omega), W.shaped_dat (by omega), _, rfl, ?_⟩
    rw [W.eqv_dat]
    unfold W.cmp at k
    by_cases e : x = y
    · rw [decide_eq_true e]
      refine iteT ?_
      rw [if_pos e] at k
      exact k _ (Same.refl _)
    rw [decide_eq_false e]
    refine iteF ?_
    rw [if_neg e] at k
    refine ⟨_, rfl, _, rfl, _, rfl, _, _, _, _, _, _, _, rfl, ho, hd1, hd2, hx, hy, fun H1 e1 => ?_⟩
    refine ⟨_, rfl, ?_⟩
    cases ea : W.abv wt rk x y with
    | true =>
      refine iteT ?_
      rw [ea, if_pos rfl] at k
      exact k _ e1
    | false =>
      refine iteF ?_
      rw [ea, if_neg Bool.false_ne_true] at k
      refine ⟨_, rfl, _, rfl, _, rfl, _, _, _, _, _, _, _, rfl, ho.same e1, Dp.same e1 hd2, Dp.same e1 hd1, hy, hx, fun H2 e2 => ?_⟩
      refine ⟨_, rfl, ?_⟩
      cases eb : W.abv wt rk y x with
      | true =>
        refine iteT ?_
        rw [eb, if_pos rfl] at k
        exact k _ (e1.trans e2)
      | false =>
        refine iteF ?_
        rw [eb, if_neg Bool.false_ne_true] at k
        exact k _ (e1.trans e2)
abbrev st_compare : Stmt := top 28
theorem sc_compare : FnScope ["order", "one", "other", "pair", "thing", "word", "name"] ["order", "one", "other"] (defScope st_compare) := ⟨rfl, rfl, rfl, by decide +kernel, rfl, by decide +kernel, by decide +kernel⟩
def spCompare (K : PySem.W.Frag) (C : Addr) (n : Nat) : Sp := fun vs H Q _ => ∃ N o v1 v2 x y wt rk, vs = [o, v1, v2] ∧ Tr N H ∧ OrdAt C (hide N H) o wt rk ∧ Dp K (hide N H) v1 (W.dat x) ∧ Dp K (hide N H) v2 (W.dat y) ∧ x.ht < n ∧ y.ht < n ∧ ∀ H', Same H H' → Q (.str (W.cmp wt rk x y)) H'
theorem ok_compare {C : Addr} (D : Def K mg "compare" st_compare ["order", "one", "other"]) {n k0 : Nat} (hk : n + 2 ≤ k0) (c_checked_order : Callee P w K mg base 1 "checked_order" ["order"] (spCheckedOrder C)) (c_checked_word : Callee P w K mg base (n + 2) "checked_word" ["thing"] (spAsWord K n)) (c_first_without : Callee P w K mg base (n + 1) "first_without" ["order", "word"] (spFirstWithout K C n)) (c_compare_in : Callee P w K mg base k0 "compare_in" ["order", "one", "other"] (spCompareIn K C n)) : Callee P w K mg base (k0 + 1) "compare" ["order", "one", "other"] (spCompare K C n) := by
  obtain ⟨f, fd, F, b, m⟩ := D.ex
  refine ⟨f, fd, F.ok sc_compare (fun vs H Q E h => ?_) (fun cdv A outer s H vs Q E hr h => ?_), b, F.kp, m⟩
  · obtain ⟨N, o, v1, v2, x, y, wt, rk, rfl, _⟩ := h
    rfl
  · obtain ⟨N, o, v1, v2, x, y, wt, rk, rfl, hN, ho, hd1, hd2, hx, hy, k⟩ := h
    have hr_checked_order := hr.mono (show 1 ≤ k0 by omega)
    have hr_checked_word := hr.mono (show n + 2 ≤ k0 by omega)
    have hr_first_without := hr.mono (show n + 1 ≤ k0 by omega)
    have hr_compare_in := hr
    refine ⟨_, (pss_cons (ps_expr (pe_own c_checked_order hr_checked_order rfl (pa_cons (pv 0) pa_nil))) (pss_cons (ps_set (i := 3) sc_compare.nd rfl (Or.inl rfl) (pe_lst pa_nil)) (pss_cons (ps_for PassesOwn.never rfl (pi_tup (pe_tup (pa_cons (pv 1) (pa_cons (pv 2) pa_nil)))) (pg_name (i := 4) sc_compare.nd rfl (Or.inl rfl)) (pss_cons (ps_set (i := 5) sc_compare.nd rfl (Or.inl rfl) (pe_own c_checked_word hr_checked_word rfl (pa_cons (pv 4) pa_nil))) (pss_cons (ps_set (i := 6) sc_compare.nd rfl (Or.inl rfl) (pe_own c_first_without hr_first_without rfl (pa_cons (pv 0) (pa_cons (pv 5) pa_nil)))) (pss_cons (ps_if (pt_cmp (pc_notN (pv 6))) pss_never pss_nil) (pss_one (ps_expr (pe_bm PySem.F.plainAttrs_list PySem.F.slot_list_append PySem.F.type_list_append mt_append (pv 3) (pa_cons (pv 5) pa_nil)))))))) (pss_one (ps_ret (pe_own c_compare_in hr_compare_in rfl (pa_cons (pv 0) (pa_cons (pe_ix ix_list (pv 3) pe_int (fun _ _ => rfl)) (pa_cons (pe_ix ix_list (pv 3) pe_int (fun _ _ => rfl)) pa_nil))))))))), ?_⟩
    have ho1 : OrdAt C H o wt rk := ho.same hide_same
    refine q_seq (fun σ' H' => σ' = [some o, some v1, some v2, none, none, none, none] ∧ H' = H) (fun Z z => ?_) (fun σ1 H1 hp1 => ?_)
    · walk_at "rd"
      exact ⟨_, rfl, _, _, _, rfl, ho1, z _ _ ⟨rfl, rfl⟩⟩
    obtain ⟨rfl, rfl⟩ := hp1
    refine q_seq (fun σ' H' => ∃ p, σ' = [some o, some v1, some v2, some (.ref p), none, none, none] ∧ H1 p = none ∧ H' = upd H1 p (.lst [])) (fun Z z => ?_) (fun σ1 H2 hp1 => ?_)
    · walk_at "rd"
      exact ⟨by decide, fun p hp => z _ _ ⟨p, rfl, hp, rfl⟩⟩
    obtain ⟨p, rfl, hp, rfl⟩ := hp1
    have s2 : Same H1 (upd H1 p (.lst [])) := same_new hp _
    have tr2 : Tr (plus N p) (upd H1 p (.lst [])) := fun a q => by
      rcases q with rfl | q
      · rw [upd_same]; exact fun z => nomatch z
      · exact (hN.same s2) a q
    have s2' : Same (hide N H1) (hide (plus N p) (upd H1 p (.lst []))) := plus_same hp s2
    refine q_seq (fun σ' H' => ∃ u1 u2 u3 ys, σ' = [some o, some v1, some v2, some (.ref p), u1, u2, u3] ∧ Same H1 H' ∧ H' p = some (.lst ys) ∧ DpAll K (hide (plus N p) H') ys [x.dat, y.dat]) (fun Z z => ?_) (fun σ3 H3 hp3 => ?_)
    · refine rd_for ?_
      walk_at "rd"
      refine ⟨_, rfl, _, rfl, show 2 ≤ sizeLine from by decide, fun tp htp => ⟨tp, rfl, ⟨[v1, v2], .inl (.inl upd_same)⟩, ?_⟩⟩
      refine forq (sp_tup (K := K) (xs := [v1, v2])) (fun i σ' H' => ∃ u1 u2 u3 ys, σ' = [some o, some v1, some v2, some (.ref p), u1, u2, u3] ∧ Same H1 H' ∧ Same (hide N H1) (hide (plus N p) H') ∧ Tr (plus N p) H' ∧ H' p = some (.lst ys) ∧ ys.length = i ∧ H' tp = some (.tup [v1, v2]) ∧ DpAll K (hide (plus N p) H') ys ([x.dat, y.dat].take i)) ?_ (fun i σ' H' q => ?_) (fun i v σ' H0 H' hi q e r => ?_) (fun σ' H' q => ?_)
      · have t := same_new htp (.tup [v1, v2])
        exact ⟨_, _, _, [], rfl, s2.trans t, s2'.trans (hide_mono t), tr2.same t, t _ _ upd_same, rfl, upd_same, .nil⟩
      · obtain ⟨_, _, _, _, _, _, _, _, _, _, q, _⟩ := q
        exact .inl (.inl q)
      · obtain ⟨u1, u2, u3, ys, rfl, f1, f2, f3, f4, f5, f6, f7⟩ := q
        obtain ⟨hv, rfl⟩ := r
        have hz : ∃ z : W, [x.dat, y.dat][i]? = some z.dat ∧ Dp K (hide N H1) v z.dat ∧ z.ht < n := by
          match i, hi, hv with
          | 0, _, hv => cases hv; exact ⟨x, rfl, hd1, hx⟩
          | 1, _, hv => cases hv; exact ⟨y, rfl, hd2, hy⟩
        obtain ⟨z', hz1, hz2, hz3⟩ := hz
        refine q_seq (fun σ4 H4 => ∃ wv, σ4 = [some o, some v1, some v2, some (.ref p), some v, some wv, u3] ∧ Same H' H4 ∧ Dp K (hide (plus N p) H4) wv z'.dat) (fun Z1 z1 => ?_) (fun σ4 H4 hp4 => ?_)
        · walk_at "rd"
          exact ⟨_, rfl, plus N p, _, z', rfl, f3, Dp.same f2 hz2, hz3, fun v' H4 e4 d4 => z1 _ _ ⟨v', rfl, e4, d4⟩⟩
        obtain ⟨wv, rfl, e4, d4⟩ := hp4
        walk_at "rd"
        refine ⟨_, rfl, _, rfl, _, _, z', wt, rk, rfl, ho1.same (f1.trans e4), Dp.same hide_same d4, hz3, fun H5 e5 => ?_⟩
        refine ⟨_, rfl, _, rfl, ?_⟩
        refine iteF ?_
        have e6 := e4.trans e5
        refine ⟨_, rfl, .inl ⟨rfl, ys, .inl (.inl (e6 _ _ f4))⟩, _, rfl, ?_⟩
        refine ⟨p, ys, wv, rfl, rfl, e6 _ _ f4, Nat.lt_of_le_of_lt (show ys.length ≤ 2 from Nat.le_of_lt (by rw [f5]; exact hi)) (by decide), ?_⟩
        refine ⟨_, _, _, ys ++ [wv], rfl, same_upd hp (f1.trans e6) _, fun a o' q => plus_upd a o' (hide_mono e6 a o' (f2 a o' q)), fun a q => ?_, upd_same, by rw [List.length_append, f5]; rfl, ?_, ?_⟩
        · by_cases ea : a = p
          · subst ea; rw [upd_same]; exact fun z => nomatch z
          · rw [upd_ne ea]; exact (f3.same e6) a q
        · have : tp ≠ p := fun q => by subst q; rw [upd_same] at htp; cases htp
          rw [upd_ne this]
          exact e6 _ _ f6
        · have et : [x.dat, y.dat].take (i + 1) = [x.dat, y.dat].take i ++ [z'.dat] := by
            rw [List.take_succ, hz1]
            rfl
          rw [et]
          exact DpAll.app (DpAll.same (fun a o' q => plus_upd a o' (hide_mono e6 a o' q)) f7) (.cons (Dp.same plus_upd (Dp.same (hide_mono e5) d4)) .nil)
      · obtain ⟨u1, u2, u3, ys, rfl, f1, f2, f3, f4, f5, f6, f7⟩ := q
        exact z _ _ ⟨_, _, _, ys, rfl, f1, f4, f7⟩
    obtain ⟨u1, u2, u3, ys, rfl, f1, f4, f7⟩ := hp3
    cases f7 with
    | cons g1 f7 =>
    cases f7 with
    | cons g2 f7 =>
    cases f7
    walk_at "rd"
    refine ⟨_, rfl, _, rfl, p, _, 0, _, rfl, rfl, .inl (.inl f4), atI_nat (j := 0) rfl, _, rfl, p, _, 1, _, rfl, rfl, .inl (.inl f4), atI_nat (j := 1) rfl, ?_⟩
    exact ⟨_, _, _, x, y, wt, rk, rfl, ho1.same f1, Dp.same hide_same g1, Dp.same hide_same g2, hx, hy, fun H' e' => k H' (f1.trans e')⟩
end
end K29

-- text: Defs6
set_option linter.all false
set_option maxRecDepth 100000
set_option maxHeartbeats 4000000
namespace K29
open PySem PySem.Spec PyProof.Rows L2 DB
local macro_rules | `(tactic| walk_at "rd") => `(tactic| (dsimp only [cxOf, Cx.nox, L2.start, tRet, tRetN, tCB, tCons, tNil, tC, tVar, tTup, tLst, tB, tTest, tAnd, tOr, tNot, tAndV, tOrV, tNotV, tIfS, tIf, tSeq, tNext, tDrop, tOp, tUn, tAsg, gName, gSub, tSl, tPart, tNoPart, tCall, tPar, tBM, tChain, tYes, StX.tStar, tFld, tNotN, tIsN, tDNotIn, tDIn, tDGet, tDGet2, tDNewK, List.length_cons, List.length_nil, List.set_cons_zero, List.set_cons_succ, List.nil_append, List.cons_append, List.append_nil, gTup, gCons, gNil, tLockE, iKeys, XR.iZipTN, sFld, sDPut, iEnum, XR.iEnumK]))
section
variable {P : Program} {w : World} {K : PySem.W.Frag} {mg : Str → Option Value} {base : Heap}

def DcR (J : It) (H1 : Hp) (g : TG) (tt : TT) (tk tv : TE) (vs : List Nat) (σ : L2.St) (Q : VK) : Prop :=
  ∀ D, H1 D = none → ∃ W : Nat → Nat → Hp → Prop, (∃ m, W 0 m (upd H1 D (.dK []))) ∧ ∀ i m H, W i m H →
  (J.stop i H ∧ Q (.ref D) H) ∨ (J.go i H ∧ ∃ Nx : Hp → Prop, (∀ H', Nx H' → ∃ m', m' < m ∧ W (i + 1) m' H') ∧ ∀ x H', J.yld i H x H' → g x (wipe σ vs) H' fun σ2 H2 => wipe σ2 vs = wipe σ vs ∧ tt σ2 H2 fun b H3 =>
    if b = true then tk σ2 H3 fun y H4 => tv σ2 H4 fun z H5 => ∃ kvs k, y = kV k ∧ H5 D = some (.dK kvs) ∧ kvs.length < sizeLine ∧ Nx (upd H5 D (.dK (putK kvs k z))) else Nx H3)
theorem rd_dc {wi : TI} {g : TG} {tt : TT} {tk tv : TE} {vs : List Nat} {σ : L2.St} {H : Hp} {Q : VK} (h : wi σ H fun J H1 => DcR J H1 g tt tk tv vs σ Q) : tDc wi g tt tk tv vs σ H Q := h
theorem dcq {J : It} {St : Hp → Prop} {H1 : Hp} {n : Nat} {R : Nat → V → Hp → Hp → Prop} {g : TG} {tk tv : TE} {vs : List Nat} {σ : L2.St} {Q : VK} (S : SrcP J St n R) (Pv : Addr → Nat → Hp → Prop)
    (h0 : ∀ D, H1 D = none → Pv D 0 (upd H1 D (.dK []))) (hs : ∀ D i H, Pv D i H → St H)
    (step : ∀ (D : Addr) (i : Nat) (x : V) (H' H'' : Hp), i < n → H1 D = none → Pv D i H' → Same H' H'' → R i x H' H'' →
      g x (wipe σ vs) H'' fun σ2 H2 => wipe σ2 vs = wipe σ vs ∧ tk σ2 H2 fun y H4 => tv σ2 H4 fun z H5 => ∃ kvs k, y = kV k ∧ H5 D = some (.dK kvs) ∧ kvs.length < sizeLine ∧ Pv D (i + 1) (upd H5 D (.dK (putK kvs k z))))
    (fin : ∀ D H2, H1 D = none → Pv D n H2 → Q (.ref D) H2) : DcR J H1 g tYes tk tv vs σ Q := by
  intro D hD
  refine ⟨fun i m H => m = n - i ∧ i ≤ n ∧ Pv D i H, ⟨n, rfl, Nat.zero_le _, h0 D hD⟩, ?_⟩
  rintro i m H ⟨rfl, hi, p⟩
  by_cases hlt : i < n
  · refine .inr ⟨S.go i H (hs D i H p) hlt, Pv D (i + 1), fun H' h => ⟨n - (i + 1), by omega, rfl, hlt, h⟩, fun x H' y => ?_⟩
    obtain ⟨e', r⟩ := S.yld i H x H' (hs D i H p) hlt y
    exact step D i x H H' hlt hD p e' r
  · have ei : i = n := by omega
    subst ei
    exact .inl ⟨S.stop H (hs D i H p), fin D H hD p⟩
/-- rows: names and weights -/
def rowsD (rws : List (Str × Int)) : List PyData := rws.map fun p => .tuple [.str p.1, .int p.2]
structure RowsOk (rws : List (Str × Int)) : Prop where
  nd : (rws.map (·.1)).Nodup
  ok : ∀ p ∈ rws, nameOk p.1 = true ∧ 1 ≤ p.2 ∧ p.1.length ≤ 100000
  len : rws.length ≤ 1000
structure RowsK (rws : List (Str × Int)) (kw kr : List (Key × V)) : Prop where
  w : ∀ (j : Nat) (p : Str × Int), rws[j]? = some p → valV kw (.inr p.1) = some (.int p.2)
  r : ∀ (j : Nat) (p : Str × Int), rws[j]? = some p → valV kr (.inr p.1) = some (.int (j : Nat))
def spInit (K : PySem.W.Frag) (C : Addr) : Sp := fun vs H Q _ => ∃ p dx v rws H0, vs = [.ref p, v] ∧ H p = some (.ins C dx []) ∧ H0 p = none ∧ Same H0 H ∧ Dp K H0 v (.list (rowsD rws)) ∧ RowsOk rws ∧
  ∀ H', Same H0 H' → (∃ dw dr kw kr, H' p = some (.ins C dx (oflds dw dr)) ∧ H' dw = some (.dK kw) ∧ H' dr = some (.dK kr) ∧ RowsK rws kw kr) → Q .non H'
structure InitDef (K : PySem.W.Frag) (C : Addr) (st : Stmt) : Prop where
  ex : ∃ (f : Addr) (fd : FuncData), Fun K "__init__" "Order.__init__" st f fd ∧ Binds K fd ["self", "rows"] [] ∧ Mk K C f
/-- the class's call -/
structure Maker (P : Program) (w : World) (K : PySem.W.Frag) (mg : Str → Option Value) (base : Heap) (k : Nat) (C : Addr) (sp : Sp) : Prop where
  ex : ∃ (f : Addr) (fd : FuncData), FnOk P w K mg base CX0 k f fd ["self", "rows"] sp ∧ Binds K fd ["self", "rows"] [] ∧ Mk K C f
def kws (rws : List (Str × Int)) : List (Key × V) := rws.map fun p => (.inr p.1, .int p.2)
def krs (rws : List (Str × Int)) : List (Key × V) := (rws.zipIdx 0).map fun q => (.inr q.1.1, .int (q.2 : Nat))
theorem valV_map_row {f : Nat → V} : ∀ {rws : List (Str × Int)} (hn : (rws.map (·.1)).Nodup) {j : Nat} {p : Str × Int} (h : rws[j]? = some p) (g : Str × Int → Nat → V) (m : Nat), valV ((rws.zipIdx m).map fun q => ((.inr q.1.1 : Key), g q.1 q.2)) (.inr p.1) = some (g p (m + j))
  | [], _, j, p, h, g, m => by simp at h
  | r :: rs, hn, 0, p, h, g, m => by
    have e := Option.some.inj (show some r = some p from h)
    subst e
    exact valV_pos rfl
  | r :: rs, hn, j + 1, p, h, g, m => by
    rw [List.map_cons, List.nodup_cons] at hn
    have h' : rs[j]? = some p := by simpa using h
    have hne : r.1 ≠ p.1 := fun q => hn.1 (by rw [q]; exact List.mem_map.mpr ⟨p, List.mem_of_getElem? h', rfl⟩)
    have ih := valV_map_row (f := f) hn.2 h' g (m + 1)
    rw [List.zipIdx_cons, List.map_cons]
    have : valV (((.inr r.1 : Key), g r m) :: (rs.zipIdx (m + 1)).map fun q => ((.inr q.1.1 : Key), g q.1 q.2)) (.inr p.1) = valV ((rs.zipIdx (m + 1)).map fun q => ((.inr q.1.1 : Key), g q.1 q.2)) (.inr p.1) := by
      unfold valV
      rw [List.find?_cons_of_neg (by simp [hne])]
    rw [this, ih]
    congr 2
    omega
theorem valV_no {κ : Type} [DecidableEq κ] {kvs : List (κ × V)} {k : κ} (h : ∀ p ∈ kvs, p.1 ≠ k) : valV kvs k = none := by
  unfold valV
  rw [List.find?_eq_none.mpr (fun p hp => by simpa using h p hp)]
  rfl
theorem none_of_none {H H' : Hp} {a : Addr} (e : Same H H') (h : H' a = none) : H a = none := by
  cases q : H a with
  | none => rfl
  | some o => rw [e _ _ q] at h; cases h
theorem g_pair {K : PySem.W.Frag} {i j n : Nat} {T : Addr} {u v : V} {σ : L2.St} {H : Hp} {Q : L2.St → Hp → Prop} (hT : H T = some (.tup [u, v])) (hn : n = 2) (q : Q ((σ.set i (some u)).set j (some v)) H) : gTup K n (gCons (gName i) (gCons (gName j) gNil)) (.ref T) σ H Q := by
  subst hn
  exact ⟨T, [u, v], rfl, .inl (.inl hT), rfl, u, [v], rfl, v, [], rfl, rfl, q⟩
theorem take_snoc {α : Type} {l : List α} {i : Nat} {x : α} (h : l[i]? = some x) : l.take (i + 1) = l.take i ++ [x] := by rw [List.take_succ, h]; rfl
theorem not_in_take {rws : List (Str × Int)} (hn : (rws.map (·.1)).Nodup) {i : Nat} {p : Str × Int} (h : rws[i]? = some p) : ∀ q ∈ rws.take i, q.1 ≠ p.1 := by
  intro q hq e
  obtain ⟨j, hj⟩ := List.getElem?_of_mem hq
  rw [List.getElem?_take] at hj
  by_cases hji : j < i
  · rw [if_pos hji] at hj
    have h1 : (rws.map (·.1))[j]? = some p.1 := by rw [List.getElem?_map, hj, ← e]; rfl
    have h2 : (rws.map (·.1))[i]? = some p.1 := by rw [List.getElem?_map, h]; rfl
    have li : i < (rws.map (·.1)).length := (List.getElem?_eq_some_iff.mp h2).1
    have := (List.getElem?_inj (by omega) hn).mp (h1.trans h2.symm)
    omega
  · rw [if_neg hji] at hj; cases hj
abbrev st_Order___init__ : Stmt := inClass (top 21) 0
theorem sc_Order___init__ : FnScope ["self", "rows", "index", "row", "name"] ["self", "rows"] (defScope st_Order___init__) := ⟨rfl, rfl, rfl, by decide +kernel, rfl, by decide +kernel, by decide +kernel⟩
theorem ok_init (G : Glob K mg) {C : Addr} (T : OTxt K mg C) (D : InitDef K C st_Order___init__) (c_is_list : Callee P w K mg base 1 "is_list" ["thing"] (spIsList K)) (c_is_name : Callee P w K mg base 1 "is_name" ["thing"] (spIsName K)) (c_is_integer : Callee P w K mg base 1 "is_integer" ["thing"] (spIsInteger K)) : Maker P w K mg base 2 C (spInit K C) := by
  obtain ⟨f, fd, F, b, m⟩ := D.ex
  have z_len := G.len
  have z_enumerate := G.enumerate
  refine ⟨f, fd, F.ok sc_Order___init__ (fun vs H Q E h => ?_) (fun cdv A outer s H vs Q E hr h => ?_), b, m⟩
  · obtain ⟨p, dx, v, rws, H0, rfl, _⟩ := h
    rfl
  · obtain ⟨p, dx, v, rws, H0, rfl, hp, hp0, s0, hd, ok, k⟩ := h
    have hr_is_list := hr
    have hr_is_name := hr
    have hr_is_integer := hr
    have hu := hu_of hr
    refine ⟨_, (pss_cons (ps_if (pt_not (pt_val (pe_own c_is_list hr_is_list rfl (pa_cons (pv 1) pa_nil)))) pss_never pss_nil) (pss_cons (ps_fld (pv 0) pe_dnewK rfl) (pss_cons (ps_for PassesOwn.never rfl (pi_enum rfl z_enumerate (pa_cons (pv 1) pa_nil)) (pg_tup rfl (pgs_cons (pg_name (i := 2) sc_Order___init__.nd rfl (Or.inl rfl)) (pgs_cons (pg_name (i := 3) sc_Order___init__.nd rfl (Or.inl rfl)) pgs_nil))) (pss_cons (ps_if (PW.pt (pw_or (pt_not (pt_val (pe_own c_is_list hr_is_list rfl (pa_cons (pv 3) pa_nil)))) (pw_or (pt_cmpR op_ne (pe_callB call_len_seq rfl z_len PySem.boot_len (pa_cons (pv 3) pa_nil)) pe_int (nomark _)) (pw_or (pt_not (pt_val (pe_own c_is_name hr_is_name rfl (pa_cons (pe_ix ix_tup (pv 3) pe_int (fun _ _ => rfl)) pa_nil)))) (pw_or1 (pt_cmp (pc_din hu (pe_ix ix_tup (pv 3) pe_int (fun _ _ => rfl)) (pe_fld (pv 0) rfl)))))))) pss_never pss_nil) (pss_cons (ps_if (PW.pt (pw_or (pt_not (pt_val (pe_own c_is_integer hr_is_integer rfl (pa_cons (pe_ix ix_tup (pv 3) pe_int (fun _ _ => rfl)) pa_nil)))) (pw_or1 (pt_cmpR op_lt (pe_ix ix_tup (pv 3) pe_int (fun _ _ => rfl)) pe_int (nomark _))))) pss_never pss_nil) (pss_one (ps_dput hu (pe_fld (pv 0) rfl) (pe_ix ix_tup (pv 3) pe_int (fun _ _ => rfl)) (pe_ix ix_tup (pv 3) pe_int (fun _ _ => rfl)) rfl))))) (pss_one (ps_fld (pv 0) (pe_lock (pe_dc (own := [("index", 2), ("name", 4)]) (g := (gTup K 2 (gCons (gName 2) (gCons (gName 4) gNil)))) (tt := tYes) rfl sc_Order___init__.nd (XR.pi_enumK rfl z_enumerate (pa_cons (pe_fld (pv 0) rfl) pa_nil)) (blkOk_by (N := ["self", "rows", "index", "row", "name"]) (sc := defScope st_Order___init__) (by decide +kernel)) (fun _ _ _ _ _ => (pg_tup rfl (pgs_cons (pg_name (i := 2) sc_Order___init__.nd rfl (Or.inl rfl)) (pgs_cons (pg_name (i := 4) sc_Order___init__.nd rfl (Or.inl rfl)) pgs_nil)))) (fun _ _ _ _ _ => pts_nil) (fun _ _ _ _ _ => (pv 4)) (fun _ _ _ _ _ => (pv 2)))) rfl))))), ?_⟩
    cases hd with
    | @lst la xs _ hs ha =>
    have lx : xs.length = rws.length := by have := DpAll.length ha; rw [rowsD, List.length_map] at this; exact this
    refine q_when false (fun Q1 q1 => ?_) (fun hb => nomatch hb) (fun _ H1 e1 => ?_)
    · walk_at "rd"
      exact ⟨_, rfl, _, _, rfl, Dp.same s0 (.lst hs ha), fun H' e' => ⟨_, rfl, q1 _ e'⟩⟩
    have s1 := s0.trans e1
    have hp1 := e1 _ _ hp
    refine q_seq (fun σ' H' => ∃ dw, σ' = [some (.ref p), some (.ref la), none, none, none] ∧ Same H0 H' ∧ H0 dw = none ∧ dw ≠ p ∧ H' p = some (.ins C dx [("own_weights", .ref dw)]) ∧ H' dw = some (.dK [])) (fun Z z => ?_) (fun σ2 H2 hp2 => ?_)
    · walk_at "rd"
      refine fun dw hdw => ⟨_, rfl, p, C, dx, [], rfl, same_new hdw _ _ _ hp1, T.cl, T.nW, by decide, ?_⟩
      have ne : dw ≠ p := fun q => by subst q; rw [hp1] at hdw; cases hdw
      have hdw0 : H0 dw = none := none_of_none s1 hdw
      exact z _ _ ⟨dw, rfl, same_upd hp0 (s1.trans (same_new hdw _)) _, hdw0, ne, upd_same, by rw [upd_ne ne, upd_same]⟩
    obtain ⟨dw, rfl, s2, hdw0, hdp, h2p, h2w⟩ := hp2
    refine q_seq (fun σ' H' => ∃ u1 u2, σ' = [some (.ref p), some (.ref la), u1, u2, none] ∧ Same H0 H' ∧ H' p = some (.ins C dx [("own_weights", .ref dw)]) ∧ H' dw = some (.dK (kws rws))) (fun Z z => ?_) (fun σ3 H3 hp3 => ?_)
    · refine rd_for ?_
      walk_at "rd"
      refine ⟨_, rfl, la, xs, rfl, s2.seq hs, ?_⟩
      refine forq (sp_enumL (K := K) (xs := xs)) (fun i σ' H' => ∃ u1 u2, σ' = [some (.ref p), some (.ref la), u1, u2, none] ∧ Same H0 H' ∧ H' p = some (.ins C dx [("own_weights", .ref dw)]) ∧ H' dw = some (.dK (kws (rws.take i)))) ⟨_, _, rfl, s2, h2p, h2w⟩ (fun i σ' H' q => ?_) (fun i v σ' H0' H' hi q e r => ?_) (fun σ' H' q => ?_)
      · obtain ⟨_, _, _, e, _⟩ := q
        exact e.seq hs
      · obtain ⟨u1, u2, rfl, f1, f2, f3⟩ := q
        obtain ⟨tp, vi, htp, rfl, rfl, hvi⟩ := r
        have hrw : ∃ nw, rws[i]? = some nw := ⟨_, List.getElem?_eq_getElem (by omega)⟩
        obtain ⟨nw, hnw⟩ := hrw
        obtain ⟨d, hd1, hd2⟩ := DpAll.get ha hvi
        rw [rowsD, List.getElem?_map, hnw] at hd1
        cases (Option.some.inj hd1)
        have okr := ok.ok nw (List.mem_of_getElem? hnw)
        cases hd2 with
        | @tup ta us _ hta dus =>
        cases dus with
        | @cons u1' _ us _ du1 dus =>
        cases dus with
        | @cons u2' _ us _ du2 dus =>
        cases dus
        cases du1
        cases du2
        have f4 := f1.trans e
        refine g_pair upd_same rfl ?_
        have g2 := e _ _ f2
        have g3 := e _ _ f3
        have hno : valV (kws (rws.take i)) (.inr nw.1) = none := valV_no fun q hq => by
          obtain ⟨q', hq', rfl⟩ := List.mem_map.mp hq
          exact fun z => not_in_take ok.nd hnw q' hq' (Sum.inr.inj z)
        refine q_when false (fun Q1 q1 => ?_) (fun hb => nomatch hb) (fun _ H4 e4 => ?_)
        · walk_at "rd"
          refine ⟨_, rfl, _, _, rfl, .tup (Same.tupL f4 hta) (.cons (.str _) (.cons (.int _) .nil)), fun H5 e5 => ⟨_, rfl, ?_⟩⟩
          refine iteF ?_
          have f5 := f4.trans e5
          refine ⟨_, rfl, ta, _, rfl, .inr (Same.tupL f5 hta), rfl, _, rfl, ?_⟩
          refine iteF ?_
          refine ⟨_, rfl, ta, _, 0, _, rfl, rfl, Same.tupL f5 hta, atI_nat (j := 0) rfl, ?_⟩
          refine ⟨_, _, rfl, .str _, fun y hy => by cases hy; exact okr.2.2, fun H6 e6 => ⟨_, rfl, ?_⟩⟩
          rw [show isNm (.str nw.1) = true from okr.1]
          refine iteF ?_
          have f6 := f5.trans e6
          have g6 := e5.trans e6
          refine ⟨_, rfl, ta, _, 0, _, rfl, rfl, Same.tupL f6 hta, atI_nat (j := 0) rfl, _, rfl, p, C, dx, _, _, rfl, g6 _ _ g2, T.cl, T.nW, rfl, ?_⟩
          have dg := DGet.k (k := Sum.inr nw.1) (g6 _ _ g3)
          rw [hno] at dg
          exact ⟨dw, _, rfl, dg, _, rfl, q1 _ g6⟩
        have f5 := f4.trans e4
        refine q_when false (fun Q1 q1 => ?_) (fun hb => nomatch hb) (fun _ H5 e5 => ?_)
        · walk_at "rd"
          refine ⟨_, rfl, ta, _, 1, _, rfl, rfl, Same.tupL f5 hta, atI_nat (j := 1) rfl, _, _, rfl, .int _, _, rfl, ?_⟩
          refine iteF ?_
          refine ⟨_, rfl, ta, _, 1, _, rfl, rfl, Same.tupL f5 hta, atI_nat (j := 1) rfl, _, _, rfl, rfl, _, rfl, ?_⟩
          rw [show decide (nw.2 < 1) = false from decide_eq_false (by have := okr.2.1; omega)]
          exact q1 _ (Same.refl _)
        have f6 := f5.trans e5
        have g6 := e4.trans e5
        walk_at "rd"
        refine ⟨_, rfl, ta, _, 1, _, rfl, rfl, Same.tupL f6 hta, atI_nat (j := 1) rfl, _, rfl, p, C, dx, _, _, rfl, g6 _ _ g2, T.cl, T.nW, rfl, ?_⟩
        refine ⟨_, rfl, ta, _, 0, _, rfl, rfl, Same.tupL f6 hta, atI_nat (j := 0) rfl, ?_⟩
        have hll : (kws (rws.take i)).length < sizeLine := by
          have : (kws (rws.take i)).length ≤ 1000 := by unfold kws; rw [List.length_map, List.length_take]; have := ok.len; omega
          exact Nat.lt_of_le_of_lt this (by decide)
        refine ⟨dw, _, rfl, DPut.k (k := Sum.inr nw.1) (g6 _ _ g3) hll, ?_⟩
        refine ⟨_, _, rfl, same_upd hdw0 f6 _, by rw [upd_ne (Ne.symm hdp)]; exact g6 _ _ g2, ?_⟩
        rw [upd_same, putK_new _ hno, take_snoc hnw]
        unfold kws
        rw [List.map_append]
        rfl
      · obtain ⟨u1, u2, rfl, f1, f2, f3⟩ := q
        rw [lx, List.take_length] at f3
        exact z _ _ ⟨_, _, rfl, f1, f2, f3⟩
    obtain ⟨u1, u2, rfl, s3, h3p, h3w⟩ := hp3
    walk_at "rd"
    refine ⟨dw, _, h3w, trivial, fun od => ?_⟩
    refine rd_dc ?_
    walk_at "rd"
    have ne2 : p ≠ dw := Ne.symm hdp
    refine ⟨_, rfl, p, C, dx, _, _, rfl, by rw [upd_ne ne2]; exact h3p, T.cl, T.nW, rfl, dw, od, _, rfl, upd_same, ?_⟩
    have hf : ∀ q, q = upd H3 dw (.frz od (.dK (kws rws))) → Same (hide (· = dw) H3) q := fun q hq a o' ha' => by
      obtain ⟨n1, n2⟩ := hide_some ha'
      rw [hq, upd_ne n1]
      exact n2
    have lk : (kws rws).length = rws.length := by unfold kws; rw [List.length_map]
    refine dcq (sp_enumK (kvs := kws rws)) (fun D i H' => Same (upd H3 dw (.frz od (.dK (kws rws)))) H' ∧ H' D = some (.dK (krs (rws.take i)))) (fun D hD => ⟨same_new hD _, upd_same⟩) (fun D i H' q => q.1 _ _ upd_same) (fun D i x H' H'' hi hD q e r => ?_) (fun D H' hD q => ?_)
    · obtain ⟨tp, kk, u, htp, rfl, hku, rfl⟩ := r
      have hrw : ∃ nw, rws[i]? = some nw := ⟨_, List.getElem?_eq_getElem (by omega)⟩
      obtain ⟨nw, hnw⟩ := hrw
      have ek : kk = .inr nw.1 := by
        unfold kws at hku
        rw [List.getElem?_map, hnw] at hku
        cases (Option.some.inj hku)
        rfl
      subst ek
      refine g_pair upd_same rfl ?_
      walk_at "rd"
      refine ⟨rfl, _, rfl, _, rfl, _, Sum.inr nw.1, rfl, e _ _ q.2, ?_, same_upd hD (q.1.trans e) _, ?_⟩
      · unfold krs
        rw [List.length_map, List.length_zipIdx, List.length_take]
        have := ok.len
        exact Nat.lt_of_le_of_lt (show _ ≤ 1000 by omega) (by decide)
      · have hno : valV (krs (rws.take i)) (.inr nw.1) = none := valV_no fun q hq => by
          obtain ⟨q', hq', rfl⟩ := List.mem_map.mp hq
          exact fun z => not_in_take ok.nd hnw q'.1 (List.fst_mem_of_mem_zipIdx hq') (Sum.inr.inj z)
        rw [upd_same, putK_new _ hno, take_snoc hnw]
        unfold krs
        rw [List.zipIdx_append, List.map_append]
        have : (rws.take i).length = i := by rw [List.length_take]; omega
        rw [this]
        simp
    · obtain ⟨q1, q2⟩ := q
      rw [lk, List.take_length] at q2
      have q3 := q1 _ _ (show upd H3 dw (.frz od (.dK (kws rws))) p = _ by rw [upd_ne ne2]; exact h3p)
      have nD : D ≠ dw := fun q => by subst q; rw [upd_same] at hD; cases hD
      have nDp : D ≠ p := fun q => by subst q; rw [upd_ne ne2, h3p] at hD; cases hD
      refine ⟨q1 _ _ upd_same, _, rfl, p, C, dx, [("own_weights", .ref dw)], rfl, by rw [upd_ne ne2]; exact q3, T.cl, T.nR, show 1 < 1000 from by decide, ?_⟩
      refine k _ (fun a o' ha' => ?_) ⟨dw, D, kws rws, krs rws, ?_, ?_, ?_, ?_⟩
      · have n1 : a ≠ p := fun q => by subst q; rw [hp0] at ha'; cases ha'
        have n2 : a ≠ dw := fun q => by subst q; rw [hdw0] at ha'; cases ha'
        rw [upd_ne n1, upd_ne n2]
        exact q1 _ _ (by rw [upd_ne n2]; exact s3 _ _ ha')
      · rw [upd_same, putF, if_neg (by decide +kernel)]
        rfl
      · rw [upd_ne hdp, upd_same]
      · rw [upd_ne nDp, upd_ne nD]
        exact q2
      · refine ⟨fun j q hq => ?_, fun j q hq => ?_⟩
        · have := valV_map_row (f := fun _ => V.non) ok.nd hq (fun p _ => V.int p.2) 0
          rw [← this]
          unfold kws
          congr 1
          apply List.ext_getElem
          · simp
          · intro i h1 h2; simp
        · have := valV_map_row (f := fun _ => V.non) ok.nd hq (fun _ i => V.int (i : Nat)) 0
          rw [Nat.zero_add] at this
          exact this
end
end K29

-- text: Law1
set_option linter.all false
set_option maxRecDepth 100000
set_option maxHeartbeats 4000000
namespace K29
open PySem PySem.Spec PyProof.Rows L2 DB
local macro_rules | `(tactic| walk_at "rd") => `(tactic| (dsimp only [cxOf, Cx.nox, L2.start, tRet, tRetN, tCB, tCons, tNil, tC, tVar, tTup, tLst, tB, tTest, tAnd, tOr, tNot, tAndV, tOrV, tNotV, tIfS, tIf, tSeq, tNext, tDrop, tOp, tUn, tAsg, gName, gSub, tSl, tPart, tNoPart, tCall, tPar, tBM, tChain, tYes, StX.tStar, tFld, tNotN, tIsN, tDNotIn, tDIn, tDGet, tDGet2, tDNewK, List.length_cons, List.length_nil, List.set_cons_zero, List.set_cons_succ, List.nil_append, List.cons_append, List.append_nil, gTup, gCons, gNil, tLockE, iKeys, XR.iZipTN, sFld, sDPut, iEnum, XR.iEnumK, XR.iEnumT, iList]))
section
variable {P : Program} {w : World} {K : PySem.W.Frag} {mg : Str → Option Value} {base : Heap}

def one (p : Addr) : Addr → Prop := fun a => a = p
theorem hide_one {p a : Addr} {H : Hp} (h : a ≠ p) : hide (one p) H a = H a := hide_off h
theorem same_one {p : Addr} {H H' : Hp} (h : H p = none) (e : Same H H') : Same H (hide (one p) H') := fun a o q => by
  have : a ≠ p := fun z => by subst z; rw [h] at q; cases q
  rw [hide_one this]
  exact e a o q
theorem hide_in {N : Addr → Prop} {p : Addr} {H : Hp} {o : HO} (h : N p) : hide N (upd H p o) = hide N H := funext fun a => by
  by_cases q : N a
  · rw [hide_on q, hide_on q]
  · have : a ≠ p := fun z => by subst z; exact q h
    rw [hide_off q, hide_off q, upd_ne this]
theorem g_pairS {K : PySem.W.Frag} {i j n : Nat} {T : Addr} {u v : V} {σ : L2.St} {H : Hp} {Q : L2.St → Hp → Prop} (hT : SqT K H T [u, v]) (hn : n = 2) (q : Q ((σ.set i (some u)).set j (some v)) H) : gTup K n (gCons (gName i) (gCons (gName j) gNil)) (.ref T) σ H Q := by
  subst hn
  exact ⟨T, [u, v], rfl, hT, rfl, u, [v], rfl, v, [], rfl, rfl, q⟩
theorem pe_never {X : Cx} {e : Expr} : PE X e (fun _ _ _ => False) := ⟨fun _ _ _ _ _ _ h => h.elim⟩
def W.sz : W → Nat
  | .a => 1 | .b => 1 | .f x => x.sz + 1 | .g x y => x.sz + y.sz + 1 | .p x => x.sz + 1
theorem W.sz_eq : ∀ x : W, x.sz = 1 + (x.kids.map W.sz).sum
  | .a => rfl | .b => rfl | .f x => by simp [W.sz, W.kids]; omega | .g x y => by simp [W.sz, W.kids]; omega | .p x => by simp [W.sz, W.kids]; omega
/-- a place and a part -/
structure PartAt (K : PySem.W.Frag) (h : Hp) (v : V) (q : List Int × W) : Prop where
  ex : ∃ (T L : Addr) (wv : V), v = .ref T ∧ h T = some (.tup [.ref L, wv]) ∧ h L = some (.lst (q.1.map .int)) ∧ Dp K h wv q.2.dat
theorem PartAt.same {K : PySem.W.Frag} {h h' : Hp} {v : V} {q : List Int × W} (p : PartAt K h v q) (e : Same h h') : PartAt K h' v q := by
  obtain ⟨T, L, wv, a, b, c, d⟩ := p.ex
  exact ⟨T, L, wv, a, e _ _ b, e _ _ c, Dp.same e d⟩
abbrev Parts (K : PySem.W.Frag) (h : Hp) : List V → List (List Int × W) → Prop := Paired (PartAt K h)
theorem Parts.same {K : PySem.W.Frag} {h h' : Hp} {ys : List V} {zs : List (List Int × W)} (p : Parts K h ys zs) (e : Same h h') : Parts K h' ys zs := paired_imp (fun _ _ q => q.same e) p
abbrev st__law_d_parts : Stmt := top 30
theorem sc__law_d_parts : FnScope ["word", "found", "index", "part", "place", "deep"] ["word"] (defScope st__law_d_parts) := ⟨rfl, rfl, rfl, by decide +kernel, rfl, by decide +kernel, by decide +kernel⟩
theorem le_sum_of_mem : ∀ {l : List Nat} {x : Nat}, x ∈ l → x ≤ l.sum
  | [], _, h => by cases h
  | y :: l, x, h => by
    rw [List.sum_cons]
    rcases List.mem_cons.mp h with rfl | h
    · omega
    · have := le_sum_of_mem h
      omega
theorem take_sum_le : ∀ (l : List W) (i : Nat), ((l.take i).map W.sz).sum ≤ (l.map W.sz).sum
  | [], i => by simp
  | y :: l, 0 => by simp
  | y :: l, i + 1 => by
    have := take_sum_le l i
    rw [List.take_succ_cons, List.map_cons, List.map_cons, List.sum_cons, List.sum_cons]
    omega
theorem paired_of_get {α β : Type} {R : α → β → Prop} : ∀ {xs : List α} {ys : List β}, xs.length = ys.length → (∀ (i : Nat) (v : α) (d : β), xs[i]? = some v → ys[i]? = some d → R v d) → Paired R xs ys
  | [], [], _, _ => .nil
  | v :: vs, d :: ds, hl, h => .cons (h 0 v d rfl rfl) (paired_of_get (by simpa using hl) fun i v' d' a b => h (i + 1) v' d' (by simpa using a) (by simpa using b))
  | [], _ :: _, hl, _ => by simp at hl
  | _ :: _, [], hl, _ => by simp at hl
theorem plus_new {N : Addr → Prop} {p : Addr} {H H' : Hp} (h : H p = none) (e : Same H H') : Same (hide N H) (hide (plus N p) H') := plus_same h e
theorem plus_tr {N : Addr → Prop} {p : Addr} {H : Hp} {o : HO} (t : Tr N H) (h : H p = some o) : Tr (plus N p) H := fun a q => by
  rcases q with rfl | q
  · rw [h]; exact fun z => nomatch z
  · exact t a q
theorem plus_in {N : Addr → Prop} {p : Addr} {H : Hp} {o : HO} : hide (plus N p) (upd H p o) = hide (plus N p) H := hide_in (.inl rfl)
theorem tr_upd {N : Addr → Prop} {H : Hp} {p : Addr} {o : HO} (t : Tr N H) : Tr N (upd H p o) := fun a q => by
  by_cases e : a = p
  · subst e; rw [upd_same]; exact fun z => nomatch z
  · rw [upd_ne e]; exact t a q
theorem word_atN {K : PySem.W.Frag} {N : Addr → Prop} {H : Hp} {v : V} {x : W} (h : Dp K (hide N H) v x.dat) : ∃ a ks, v = .ref a ∧ SqT K H a (.str x.nm :: ks) ∧ DpAll K (hide N H) ks (x.kids.map W.dat) := by
  obtain ⟨a, ks, h1, h2, h3⟩ := word_at h
  exact ⟨a, ks, h1, Same.tupL hide_same h2, h3⟩
def spDParts (K : PySem.W.Frag) (n : Nat) : Sp := fun vs H Q _ => ∃ N v x, vs = [v] ∧ Tr N H ∧ Dp K (hide N H) v (W.dat x) ∧ x.ht < n ∧ x.sz ≤ 1000 ∧ ∀ H' l ys zs, Same H H' → H' l = some (.lst ys) → Parts K (hide N H') ys zs → zs.length = x.sz → (∀ q ∈ zs, q.1.length < n) → Q (.ref l) H'
theorem ok_d_parts (G : Glob K mg) (D : Def K mg "_law_d_parts" st__law_d_parts ["word"]) : ∀ n, n ≤ 1000 → Callee P w K mg base (n + 1) "_law_d_parts" ["word"] (spDParts K n)
  | 0, _ => by
    obtain ⟨f, fd, F, b, m⟩ := D.ex
    refine ⟨f, fd, F.ok sc__law_d_parts (fun vs H Q E h => ?_) (fun cdv A outer s H vs Q E hr h => ?_), b, F.kp, m⟩
    · obtain ⟨N, v, x, rfl, _⟩ := h
      rfl
    · obtain ⟨N, v, x, rfl, _, _, h, _⟩ := h
      exact absurd h (Nat.not_lt_zero _)
  | n + 1, hn1 => by
    have c__law_d_parts := ok_d_parts G D n (by omega)
    obtain ⟨f, fd, F, b, m⟩ := D.ex
    have z_isinstance := G.isinstance
    have z_str := G.str
    have z_enumerate := G.enumerate
    refine ⟨f, fd, F.ok sc__law_d_parts (fun vs H Q E h => ?_) (fun cdv A outer s H vs Q E hr h => ?_), b, F.kp, m⟩
    · obtain ⟨N, v, x, rfl, _⟩ := h
      rfl
    · obtain ⟨N, v, x, rfl, hN, hd, hx, hz, k⟩ := h
      have hr__law_d_parts := hr
      have hu := hu_of hr
      refine ⟨_, (pss_cons (ps_set (i := 1) sc__law_d_parts.nd rfl (Or.inl rfl) (pe_lst (pa_cons (pe_tup (pa_cons (pe_lst pa_nil) (pa_cons (pv 0) pa_nil))) pa_nil))) (pss_cons (ps_if (pt_not (pt_val (pe_callB call_isi rfl z_isinstance boot_isinstance (pa_cons (pv 0) (pa_cons (pe_bltn (v := .ty "str") rfl z_str boot_str rfl) pa_nil))))) (pss_one (ps_for PassesOwn.never rfl (XR.pi_enumT rfl z_enumerate (pa_cons (pe_slice sl_tupA (pv 0) (po_some pe_int) po_none) pa_nil)) (pg_tup rfl (pgs_cons (pg_name (i := 2) sc__law_d_parts.nd rfl (Or.inr rfl)) (pgs_cons (pg_name (i := 3) sc__law_d_parts.nd rfl (Or.inl rfl)) pgs_nil))) (pss_one (ps_expr (pe_bm PySem.F.plainAttrs_list PySem.F.slot_list_extend PySem.F.type_list_extend mt_extend (pv 1) (pa_cons (pe_lc (own := [("place", 4), ("deep", 5)]) (g := (gTup K 2 (gCons (gName 4) (gCons (gName 5) gNil)))) (tt := tYes) rfl sc__law_d_parts.nd (pi_list (pe_own c__law_d_parts hr__law_d_parts rfl (pa_cons (pv 3) pa_nil))) (blkOk_by (N := ["word", "found", "index", "part", "place", "deep"]) (sc := defScope st__law_d_parts) (by decide +kernel)) (fun _ _ _ _ _ => (pg_tup rfl (pgs_cons (pg_name (i := 4) sc__law_d_parts.nd rfl (Or.inl rfl)) (pgs_cons (pg_name (i := 5) sc__law_d_parts.nd rfl (Or.inl rfl)) pgs_nil)))) (fun _ _ _ _ _ => pts_nil) (fun _ _ _ _ _ => (pe_tup (pa_cons (pe_op op_cat (pe_lst (pa_cons (pv 2) pa_nil)) (pv 4)) (pa_cons (pv 5) pa_nil))))) pa_nil)))))) pss_nil) (pss_one (ps_ret (pv 1))))), ?_⟩
      obtain ⟨a, ks, rfl, hs, hk⟩ := word_atN hd
      refine q_seq (fun σ' H' => ∃ p t, σ' = [some (.ref a), some (.ref p), none, none, none, none] ∧ H p = none ∧ Same H H' ∧ H' p = some (.lst [.ref t]) ∧ PartAt K (hide (plus N p) H') (.ref t) ([], x) ∧ Tr (plus N p) H') (fun Z z => ?_) (fun σ2 H2 hp2 => ?_)
      · walk_at "rd"
        refine ⟨by decide, fun p1 h1 => ⟨_, rfl, by decide, fun p2 h2 => ⟨by decide, fun p3 h3 => ?_⟩⟩⟩
        have e1 := same_new h1 (.lst [])
        have e2 := same_new h2 (.tup [.ref p1, .ref a])
        have e3 := same_new h3 (.lst [.ref p2])
        have hp3 : H p3 = none := none_of_none (e1.trans e2) h3
        have n2 : p2 ≠ p3 := fun q => by subst q; rw [upd_same] at h3; cases h3
        have n1 : p1 ≠ p3 := fun q => by subst q; rw [e2 _ _ upd_same] at h3; cases h3
        have n1' : ¬ plus N p3 p1 := fun q => q.elim n1 (hN.off h1)
        have n2' : ¬ plus N p3 p2 := fun q => q.elim n2 ((hN.same e1).off h2)
        have eA := (e1.trans e2).trans e3
        refine z _ _ ⟨p3, p2, rfl, hp3, eA, upd_same, ?_, plus_tr (hN.same eA) upd_same⟩
        exact ⟨p2, p1, .ref a, rfl, (hide_off n2').trans (e3 _ _ upd_same), (hide_off n1').trans (e3 _ _ (e2 _ _ upd_same)), Dp.same (plus_new hp3 eA) hd⟩
      obtain ⟨p, t, rfl, hp0, s2, hp, ht, tr2⟩ := hp2
      refine q_if true (fun Q1 q1 => ?_) (fun _ H3 e3 => ?_) (fun hb => nomatch hb)
      · walk_at "rd"
        refine ⟨_, rfl, isi1 (Dp.same s2 (Dp.same hide_same hd)) (kb_str x.dat) ⟨_, rfl, ?_⟩⟩
        rw [isStr_no]
        exact q1 H2 (Same.refl _)
      refine rd_for ?_
      walk_at "rd"
      have lk : ks.length = x.kids.length := by have := DpAll.length hk; rw [List.length_map] at this; exact this
      refine ⟨_, rfl, 1, rfl, a, _, rfl, Same.tupL (s2.trans e3) hs, fun q => absurd q (cut1_ne _ _), fun _ q1 hq1 => ?_⟩
      rw [cut1]
      have t1 := (s2.trans e3).trans (same_new hq1 (.tup ks))
      have t2 := e3.trans (same_new hq1 (.tup ks))
      have hpq := t2 _ _ hp
      refine ⟨q1, _, rfl, .inl (.inl upd_same), ?_⟩
      refine forq (sp_enumT (K := K) (xs := ks)) (fun i σ' H' => ∃ u1 u2 ys zs, σ' = [some (.ref a), some (.ref p), u1, u2, none, none] ∧ Same H H' ∧ Tr (plus N p) H' ∧ H' q1 = some (.tup ks) ∧ H' p = some (.lst ys) ∧ Parts K (hide (plus N p) H') ys zs ∧ zs.length = 1 + ((x.kids.take i).map W.sz).sum ∧ ∀ q ∈ zs, q.1.length < n + 1) ?_ (fun i σ' H' q => ?_) (fun i v σ' H0' H' hi q e r => ?_) (fun σ' H' q => ?_)
      · refine ⟨_, _, [.ref t], [([], x)], rfl, t1, tr2.same t2, upd_same, hpq, .cons (ht.same (hide_mono t2)) .nil, rfl, fun q hq => ?_⟩
        rw [List.mem_singleton] at hq
        subst hq
        exact Nat.succ_pos _
      · obtain ⟨_, _, _, _, _, _, _, h, _⟩ := q
        exact .inl (.inl h)
      · obtain ⟨u1, u2, ys, zs, rfl, f1, ft, f2, f3, f4, f5, f6⟩ := q
        obtain ⟨tp, vi, htp, rfl, rfl, hvi⟩ := r
        refine g_pair upd_same rfl ?_
        have e' := e
        generalize upd H0' tp (.tup [.int (i : Nat), vi]) = H' at e'
        obtain ⟨d, hd1, hd2⟩ := DpAll.get hk hvi
        rw [List.getElem?_map] at hd1
        have hxi : ∃ xi, x.kids[i]? = some xi := ⟨_, List.getElem?_eq_getElem (by omega)⟩
        obtain ⟨xi, hxi⟩ := hxi
        rw [hxi] at hd1
        cases (Option.some.inj hd1)
        have hxt : xi.ht < x.ht := W.kids_ht (List.mem_of_getElem? hxi)
        have szs : xi.sz ≤ (x.kids.map W.sz).sum := le_sum_of_mem (List.mem_map.mpr ⟨xi, List.mem_of_getElem? hxi, rfl⟩)
        have szx := W.sz_eq x
        have g1 := f1.trans e'
        walk_at "rd"
        refine ⟨_, rfl, .inl ⟨rfl, ys, .inl (.inl (e' _ _ f3))⟩, ?_⟩
        refine rd_lc ?_
        walk_at "rd"
        refine ⟨_, rfl, plus N p, _, xi, rfl, ft.same e', Dp.same (plus_new hp0 g1) hd2, by omega, by omega, fun H5 l ys' zs' e5 hl d5 lz q5 => ?_⟩
        refine ⟨l, rfl, ⟨_, .inl (.inl hl)⟩, ?_⟩
        have ly : ys'.length = zs'.length := paired_len d5
        refine lcr (N := plus N p) (ft.same (e'.trans e5)) (src_list (.inl (.inl hl))) (by omega) (fun _ => true) (fun j h v => ∃ z, zs'[j]? = some z ∧ PartAt K h v (((i : Nat) : Int) :: z.1, z.2)) (fun j h h' v e q => by obtain ⟨z, h1, h2⟩ := q; exact ⟨z, h1, h2.same e⟩) (fun j y H6 N6 Q2 Q3 hj e6 r6 tr6 hs6 q2 q3 => ?_) (fun Dl H6 ys6 nD e6 hy6 da => ?_)
        · obtain ⟨z, hzj, hy6⟩ := paired_get (d5.same hs6) r6
          have hlz := q5 z (List.mem_of_getElem? hzj)
          obtain ⟨T, L, wv, rfl, hT, hL, dw⟩ := hy6.ex
          refine g_pair (hide_same _ _ hT) rfl ?_
          walk_at "rd"
          refine ⟨rfl, iteT ?_⟩
          have e1 := fun p1 (h1 : H6 p1 = none) => same_new h1 (.lst [.int (i : Nat)])
          refine ⟨_, rfl, by decide, fun p1 h1 => ⟨_, rfl, p1, L, _, _, rfl, rfl, upd_same, e1 p1 h1 _ _ (hide_same _ _ hL), ?_, fun p2 h2 => ⟨_, rfl, by decide, fun p3 h3 => ?_⟩⟩⟩
          · rw [List.length_map, List.length_singleton]
            exact Nat.le_trans (show 1 + z.1.length ≤ 2000 by omega) (by decide)
          · have e2 := same_new h2 (.lst ([V.int (i : Nat)] ++ z.1.map .int))
            have e3 := same_new h3 (.tup [.ref p2, wv])
            have e123 := ((e1 p1 h1).trans e2).trans e3
            have n2 : ¬ N6 p2 := (tr6.same (e1 p1 h1)).off h2
            have n3 : ¬ N6 p3 := (tr6.same ((e1 p1 h1).trans e2)).off h3
            exact q2 _ _ e123 rfl ⟨z, hzj, p3, p2, wv, rfl, (hide_off n3).trans upd_same, (hide_off n2).trans (e3 _ _ upd_same), Dp.same (hide_mono e123) dw⟩
        · have e56 := e5.trans e6
          have hp6 := (e'.trans e56) _ _ f3
          have da2 : Parts K (hide (plus N p) H6) ys6 (zs'.map fun z => (((i : Nat) : Int) :: z.1, z.2)) := by
            have hl6 : ys6.length = zs'.length := by
              have := paired_len da
              rw [List.filter_eq_self.mpr (fun _ _ => rfl), List.length_range] at this
              omega
            have : Paired (fun v z => PartAt K (hide (plus N p) H6) v (((i : Nat) : Int) :: z.1, z.2)) ys6 zs' := by
              refine paired_of_get hl6 fun m v z hv hz => ?_
              obtain ⟨m', hm', z', hz', q⟩ := paired_get da hv
              rw [List.filter_eq_self.mpr (fun _ _ => rfl)] at hm'
              have : m' = m := by
                have hlt : m < (List.range ys'.length).length := (List.getElem?_eq_some_iff.mp hm').1
                rw [List.getElem?_range (by simpa using hlt)] at hm'
                exact (Option.some.inj hm').symm
              subst this
              rw [hz] at hz'
              cases hz'
              exact q
            exact paired_map this
          have hl6 : ys6.length = zs'.length := by have := paired_len da2; rw [List.length_map] at this; exact this
          have hly : ys.length = zs.length := paired_len f4
          have et : x.kids.take (i + 1) = x.kids.take i ++ [xi] := take_snoc hxi
          have ele : ((x.kids.take i).map W.sz).sum + xi.sz ≤ (x.kids.map W.sz).sum := by
            rw [show ((x.kids.take i).map W.sz).sum + xi.sz = ((x.kids.take (i + 1)).map W.sz).sum by rw [et, List.map_append, List.sum_append]; simp]
            exact take_sum_le _ _
          refine ⟨p, Dl, ys, ys6, rfl, rfl, hp6, hy6, ?_, ?_⟩
          · exact Nat.le_trans (show ys.length + ys6.length ≤ 5000 by omega) (by decide)
          · refine ⟨_, _, ys ++ ys6, zs ++ (zs'.map fun z => (((i : Nat) : Int) :: z.1, z.2)), rfl, same_upd hp0 (g1.trans e56) _, tr_upd (ft.same (e'.trans e56)), ?_, upd_same, ?_, ?_, ?_⟩
            · have : q1 ≠ p := fun z => by subst z; rw [f2] at f3; cases f3
              rw [upd_ne this]
              exact (e'.trans e56) _ _ f2
            · rw [plus_in]
              exact paired_app (f4.same (hide_mono (e'.trans e56))) da2
            · rw [List.length_append, List.length_map, f5, lz, et, List.map_append, List.sum_append]
              simp
              omega
            · intro q hq
              rcases List.mem_append.mp hq with hq | hq
              · exact f6 q hq
              · obtain ⟨z, hz, rfl⟩ := List.mem_map.mp hq
                exact Nat.succ_lt_succ (q5 z hz)
      · obtain ⟨u1, u2, ys, zs, rfl, f1, ft, f2, f3, f4, f5, f6⟩ := q
        rw [lk, List.take_length] at f5
        refine ⟨_, rfl, k H' p ys zs f1 f3 (f4.same plus_down) (by rw [f5, W.sz_eq x]) f6⟩
abbrev st__law_d_weight : Stmt := top 31
theorem sc__law_d_weight : FnScope ["weights", "word", "part"] ["weights", "word"] (defScope st__law_d_weight) := ⟨rfl, rfl, rfl, by decide +kernel, rfl, by decide +kernel, by decide +kernel⟩
/-- the weights' dict -/
def WtAt (H : Hp) (v : V) (wt : Str → Int) : Prop := ∃ (d : Addr) (kw : List (Key × V)), v = .ref d ∧ H d = some (.dK kw) ∧ ∀ x : W, valV kw (.inr x.nm) = some (.int (wt x.nm))
theorem WtAt.same {H H' : Hp} {v : V} {wt : Str → Int} (h : WtAt H v wt) (e : Same H H') : WtAt H' v wt := by
  obtain ⟨d, kw, a, b, c⟩ := h
  exact ⟨d, kw, a, e _ _ b, c⟩
def spDWeight (K : PySem.W.Frag) (n : Nat) : Sp := fun vs H Q _ => ∃ d v x wt, vs = [d, v] ∧ WtAt H d wt ∧ Dp K H v (W.dat x) ∧ x.ht < n ∧ ∀ H', Same H H' → Q (.int (x.wgt wt)) H'
theorem ok_d_weight (G : Glob K mg) (D : Def K mg "_law_d_weight" st__law_d_weight ["weights", "word"]) : ∀ n, Callee P w K mg base (n + 1) "_law_d_weight" ["weights", "word"] (spDWeight K n)
  | 0 => by
    obtain ⟨f, fd, F, b, m⟩ := D.ex
    refine ⟨f, fd, F.ok sc__law_d_weight (fun vs H Q E h => ?_) (fun cdv A outer s H vs Q E hr h => ?_), b, F.kp, m⟩
    · obtain ⟨d, v, x, wt, rfl, _⟩ := h
      rfl
    · obtain ⟨d, v, x, wt, rfl, _, _, h, _⟩ := h
      exact absurd h (Nat.not_lt_zero _)
  | n + 1 => by
    have c__law_d_weight := ok_d_weight G D n
    obtain ⟨f, fd, F, b, m⟩ := D.ex
    have z_isinstance := G.isinstance
    have z_str := G.str
    have z_sum := G.sum
    refine ⟨f, fd, F.ok sc__law_d_weight (fun vs H Q E h => ?_) (fun cdv A outer s H vs Q E hr h => ?_), b, F.kp, m⟩
    · obtain ⟨d, v, x, wt, rfl, _⟩ := h
      rfl
    · obtain ⟨d, v, x, wt, rfl, ho, hd, hx, k⟩ := h
      have hr__law_d_weight := hr
      have hu := hu_of hr
      refine ⟨_, (pss_cons (ps_if (pt_val (pe_callB call_isi rfl z_isinstance boot_isinstance (pa_cons (pv 1) (pa_cons (pe_bltn (v := .ty "str") rfl z_str boot_str rfl) pa_nil)))) (pss_one (ps_ret pe_int)) pss_nil) (pss_one (ps_ret (pe_op op_add (pe_dget hu (pv 0) (pe_ix ix_tup (pv 1) pe_int (fun _ _ => rfl)) (fun _ _ => rfl)) (pe_callB (cr_sum rfl) rfl z_sum boot_sum (pa_cons (pe_lc (own := [("part", 2)]) (g := (gName 2)) (tt := tYes) rfl sc__law_d_weight.nd (pi_tup (pe_slice sl_tupA (pv 1) (po_some pe_int) po_none)) (blkOk_by (N := ["weights", "word", "part"]) (sc := defScope st__law_d_weight) (by decide +kernel)) (fun _ _ _ _ _ => (pg_name (i := 2) sc__law_d_weight.nd rfl (Or.inl rfl))) (fun _ _ _ _ _ => pts_nil) (fun _ _ _ _ _ => (pe_own c__law_d_weight hr__law_d_weight rfl (pa_cons (pv 0) (pa_cons (pv 2) pa_nil))))) pa_nil)))))), ?_⟩
      obtain ⟨a, ks, rfl, hs, hk⟩ := word_at0 hd
      obtain ⟨dw, kw, rfl, h2, h4⟩ := id ho
      refine q_when false (fun Q1 q1 => ?_) (fun hb => nomatch hb) (fun _ H1 e1 => ?_)
      · walk_at "rd"
        refine ⟨_, rfl, isi1 hd (kb_str x.dat) ⟨_, rfl, ?_⟩⟩
        rw [isStr_no]
        exact q1 H (Same.refl _)
      walk_at "rd"
      refine ⟨_, rfl, _, rfl, a, _, 0, _, rfl, rfl, Same.tupL e1 hs, atI_nat (j := 0) rfl, dw, .int (wt x.nm), rfl, ?_, ?_⟩
      · have := DGet.k (k := Sum.inr x.nm) (e1 _ _ h2)
        rw [h4] at this
        exact this
      refine rd_lc ?_
      refine ⟨_, rfl, 1, rfl, a, _, rfl, Same.tupL e1 hs, fun q => absurd q (cut1_ne _ _), fun _ p hp => ?_⟩
      rw [cut1]
      refine ⟨p, rfl, ⟨_, .inl (.inl upd_same)⟩, ?_⟩
      have s3 : Same H (upd H1 p (.tup ks)) := e1.trans (same_new hp _)
      refine lcp (K := K) (N := no0) (tr0 _) (src_tup (.inl (.inl upd_same))) (by have := W.kids_len x; have := kids_lk hk; omega) (fun _ => true) (fun i => ((x.kids.map fun z => PyData.int (z.wgt wt))).getD i .none) (fun i y H' N' Q2 Q3 hi e r tr hs' q2 q3 => ?_) (fun Dl H3 ys nD e3 hy da => ?_)
      · have s4 := s3.trans e
        obtain ⟨xi, hxi, hyi, hti⟩ := kid_at (DpAll.same s4 hk) r
        refine ⟨rfl, ?_⟩
        walk_at "rd"
        refine iteT ?_
        refine ⟨_, rfl, _, rfl, _, y, xi, wt, rfl, ho.same s4, hyi, by omega, fun H5 e5 => q2 _ _ e5 rfl ?_⟩
        rw [List.getD_eq_getElem?_getD, List.getElem?_map, hxi]
        exact .int _
      · have ed : ((List.range ks.length).filter (fun _ => true)).map (fun i => ((x.kids.map fun z => PyData.int (z.wgt wt))).getD i PyData.none) = (x.kids.map (W.wgt wt)).map PyData.int := by
          have := map_range (x.kids.map fun z => PyData.int (z.wgt wt)) id PyData.none
          rw [List.length_map, List.map_id] at this
          rw [kids_lk hk, List.map_map]
          exact this
        rw [ed] at da
        have ey := DpAll.ints da
        refine ⟨Dl, _, rfl, .inl (.inl (by rw [hy, ey])), _, _, rfl, rfl, ?_⟩
        have := k H3 (s3.trans e3)
        rw [W.wgt_eq] at this
        exact this
end
end K29

-- text: Law2
set_option linter.all false
set_option maxRecDepth 100000
set_option maxHeartbeats 4000000
namespace K29
open PySem PySem.Spec PyProof.Rows L2 DB
local macro_rules | `(tactic| walk_at "rd") => `(tactic| (dsimp only [cxOf, Cx.nox, L2.start, tRet, tRetN, tCB, tCons, tNil, tC, tVar, tTup, tLst, tB, tTest, tAnd, tOr, tNot, tAndV, tOrV, tNotV, tIfS, tIf, tSeq, tNext, tDrop, tOp, tUn, tAsg, gName, gSub, tSl, tPart, tNoPart, tCall, tPar, tBM, tChain, tYes, StX.tStar, tFld, tNotN, tIsN, tDNotIn, tDIn, tDGet, tDGet2, tDNewK, List.length_cons, List.length_nil, List.set_cons_zero, List.set_cons_succ, List.nil_append, List.cons_append, List.append_nil, gTup, gCons, gNil, tLockE, iKeys, XR.iZipTN, sFld, sDPut, iEnum, XR.iEnumK, XR.iEnumT, iList, RZ.iZipA]))
section
variable {P : Program} {w : World} {K : PySem.W.Frag} {mg : Str → Option Value} {base : Heap}

def wtOf (rws : List (Str × Int)) (x : Str) : Int := ((rws.find? fun p => decide (p.1 = x)).map (·.2)).getD 0
def rkOf (rws : List (Str × Int)) (x : Str) : Nat := rws.findIdx fun p => decide (p.1 = x)
structure Full (rws : List (Str × Int)) : Prop where
  ok : RowsOk rws
  all : ∀ x : W, ∃ (j : Nat) (p : Str × Int), rws[j]? = some p ∧ p.1 = x.nm
theorem find_row : ∀ {rws : List (Str × Int)} (hn : (rws.map (·.1)).Nodup) {j : Nat} {p : Str × Int} (h : rws[j]? = some p), (rws.find? fun q => decide (q.1 = p.1)) = some p ∧ (rws.findIdx fun q => decide (q.1 = p.1)) = j
  | [], _, j, p, h => by simp at h
  | r :: rs, hn, 0, p, h => by
    have e := Option.some.inj (show some r = some p from h)
    subst e
    exact ⟨List.find?_cons_of_pos (by simp), by rw [List.findIdx_cons, decide_eq_true rfl]; rfl⟩
  | r :: rs, hn, j + 1, p, h => by
    rw [List.map_cons, List.nodup_cons] at hn
    have h' : rs[j]? = some p := by simpa using h
    have hne : r.1 ≠ p.1 := fun q => hn.1 (by rw [q]; exact List.mem_map.mpr ⟨p, List.mem_of_getElem? h', rfl⟩)
    obtain ⟨i1, i2⟩ := find_row hn.2 h'
    refine ⟨?_, ?_⟩
    · rw [List.find?_cons_of_neg (by simp [hne])]
      exact i1
    · rw [List.findIdx_cons, decide_eq_false hne, i2]
      rfl
theorem wtOf_get {rws : List (Str × Int)} (ok : RowsOk rws) {j : Nat} {p : Str × Int} (h : rws[j]? = some p) : wtOf rws p.1 = p.2 := by
  unfold wtOf
  rw [(find_row ok.nd h).1]
  rfl
theorem rkOf_get {rws : List (Str × Int)} (ok : RowsOk rws) {j : Nat} {p : Str × Int} (h : rws[j]? = some p) : rkOf rws p.1 = j := (find_row ok.nd h).2
theorem Full.inj {rws : List (Str × Int)} (F : Full rws) : W.Inj (rkOf rws) := by
  intro x y h
  obtain ⟨j, p, hp, ep⟩ := F.all x
  obtain ⟨i, q, hq, eq⟩ := F.all y
  rw [← ep, ← eq, rkOf_get F.ok hp, rkOf_get F.ok hq] at h
  subst h
  rw [hp] at hq
  cases hq
  rw [← ep, ← eq]
theorem Full.ord {rws : List (Str × Int)} (F : Full rws) {C p dx dw dr : Addr} {H : Hp} {kw kr : List (Key × V)} (h1 : H p = some (.ins C dx (oflds dw dr))) (h2 : H dw = some (.dK kw)) (h3 : H dr = some (.dK kr)) (R : RowsK rws kw kr) : OrdAt C H (.ref p) (wtOf rws) (rkOf rws) := by
  refine ⟨p, dx, dw, dr, kw, kr, rfl, h1, h2, h3, fun x => ?_, fun x => ?_⟩
  · obtain ⟨j, q, hq, e⟩ := F.all x
    rw [← e, R.w j q hq, wtOf_get F.ok hq]
  · obtain ⟨j, q, hq, e⟩ := F.all x
    rw [← e, R.r j q hq, rkOf_get F.ok hq]
/-- the rows' list and its tuples -/
theorem rows_addr {K : PySem.W.Frag} {h : Hp} : ∀ {rws : List (Str × Int)} {xs : List V}, DpAll K h xs (rowsD rws) → ∃ ps : List Addr, xs = ps.map V.ref ∧ Paired (fun p kv => SqT K h p [kV kv.1, kv.2]) ps (kws rws)
  | [], xs, d => by
    cases d
    exact ⟨[], rfl, .nil⟩
  | r :: rs, xs, d => by
    cases d with
    | @cons v _ vs _ dv dvs =>
    obtain ⟨ps, rfl, pp⟩ := rows_addr dvs
    cases dv with
    | @tup T us _ hT dus =>
    cases dus with
    | @cons v1 _ us _ dv1 dus =>
    cases dus with
    | @cons v2 _ us _ dv2 dus =>
    cases dus
    cases dv1
    cases dv2
    exact ⟨T :: ps, rfl, .cons hT pp⟩
theorem mergeK_new : ∀ {kvs acc : List (Key × V)}, (acc ++ kvs |>.map (·.1)).Nodup → mergeK acc kvs = acc ++ kvs
  | [], acc, _ => (List.append_nil acc).symm
  | kv :: kvs, acc, h => by
    show mergeK (putK acc kv.1 kv.2) kvs = _
    have hno : valV acc kv.1 = none := valV_no fun p hp e => by
      rw [List.map_append, List.map_cons] at h
      have := (List.nodup_append.mp h).2.2 p.1 (List.mem_map.mpr ⟨p, hp, rfl⟩) kv.1 (List.mem_cons_self ..)
      exact this e
    rw [putK_new _ hno]
    have e : acc ++ kv :: kvs = (acc ++ [kv]) ++ kvs := by simp
    rw [e] at h ⊢
    exact mergeK_new h
theorem nodup_inr : ∀ {l : List Str}, l.Nodup → (l.map (Sum.inr : Str → Key)).Nodup
  | [], _ => List.nodup_nil
  | x :: l, h => by
    rw [List.nodup_cons] at h
    rw [List.map_cons, List.nodup_cons]
    refine ⟨fun q => ?_, nodup_inr h.2⟩
    obtain ⟨y, hy, e⟩ := List.mem_map.mp q
    cases (Sum.inr.inj e)
    exact h.1 hy
theorem mergeK_rows {rws : List (Str × Int)} (ok : RowsOk rws) : mergeK [] (kws rws) = kws rws := by
  have := mergeK_new (kvs := kws rws) (acc := []) (by
    rw [List.nil_append]
    unfold kws
    rw [List.map_map]
    have : (List.map ((fun (x : Key × V) => x.1) ∘ fun p : Str × Int => (Sum.inr p.1, V.int p.2)) rws) = (rws.map (·.1)).map Sum.inr := by rw [List.map_map]; rfl
    rw [this]
    exact nodup_inr ok.nd)
  exact this
theorem Full.wtAt {rws : List (Str × Int)} (F : Full rws) {H : Hp} {d : Addr} (h : H d = some (.dK (kws rws))) : WtAt H (.ref d) (wtOf rws) := by
  refine ⟨d, _, rfl, h, fun x => ?_⟩
  obtain ⟨j, q, hq, e⟩ := F.all x
  have := valV_map_row (f := fun _ => V.non) F.ok.nd hq (fun p _ => V.int p.2) 0
  rw [← e, wtOf_get F.ok hq, ← this]
  unfold kws
  congr 1
  apply List.ext_getElem
  · simp
  · intro i h1 h2; simp
theorem names_at {rws : List (Str × Int)} (ok : RowsOk rws) {j : Nat} {p : Str × Int} (h : rws[j]? = some p) : ((rws.map (·.1)).map V.str)[j]? = some (.str p.1) ∧ ∀ (m : Nat) (z : V), m < j → ((rws.map (·.1)).map V.str)[m]? = some z → eqV z (.str p.1) = false := by
  refine ⟨by rw [List.getElem?_map, List.getElem?_map, h]; rfl, fun m z hm hz => ?_⟩
  rw [List.getElem?_map, List.getElem?_map] at hz
  cases hq : rws[m]? with
  | none => rw [hq] at hz; cases hz
  | some q =>
    rw [hq] at hz
    cases (Option.some.inj hz)
    show (q.1 == p.1) = false
    refine beq_false_of_ne fun e => ?_
    have h1 : (rws.map (·.1))[m]? = some p.1 := by rw [List.getElem?_map, hq, ← e]; rfl
    have h2 : (rws.map (·.1))[j]? = some p.1 := by rw [List.getElem?_map, h]; rfl
    have li : j < (rws.map (·.1)).length := (List.getElem?_eq_some_iff.mp h2).1
    have := (List.getElem?_inj (by omega) ok.nd).mp (h1.trans h2.symm)
    omega
abbrev st__law_d_above : Stmt := top 32
theorem sc__law_d_above : FnScope ["rows", "one", "other", "weights", "names", "many", "few", "heavy", "light", "unlike", "name", "weight", "place", "part", "variable", "near", "far"] ["rows", "one", "other"] (defScope st__law_d_above) := ⟨rfl, rfl, rfl, by decide +kernel, rfl, by decide +kernel, by decide +kernel⟩

theorem drop_strs {K : PySem.W.Frag} {h : Hp} {ys : List V} {zs : List (List Int × W)} (d : Parts K h ys zs) {i : Nat} {y : V} (r : ys[i]? = some y) : ∃ (T L : Addr) (wv : V) (z : W), y = .ref T ∧ h T = some (.tup [.ref L, wv]) ∧ Dp K h wv z.dat := by
  obtain ⟨q, _, p⟩ := paired_get d r
  obtain ⟨T, L, wv, a, b, c, e⟩ := p.ex
  exact ⟨T, L, wv, q.2, a, b, e⟩
def spDAbove (K : PySem.W.Frag) (n : Nat) : Sp := fun vs H Q _ => ∃ r v1 v2 rws x y, vs = [r, v1, v2] ∧ Full rws ∧ Dp K H r (.list (rowsD rws)) ∧ Dp K H v1 (W.dat x) ∧ Dp K H v2 (W.dat y) ∧ x.ht < n ∧ y.ht < n ∧ x.sz ≤ 1000 ∧ y.sz ≤ 1000 ∧ ∀ H', Same H H' → Q (.bl (W.abv (wtOf rws) (rkOf rws) x y)) H'
theorem ok_d_above (G : Glob K mg) (D : Def K mg "_law_d_above" st__law_d_above ["rows", "one", "other"]) {M : Nat} (hm : M ≤ 50) (c_parts0 : Callee P w K mg base (M + 1) "_law_d_parts" ["word"] (spDParts K M)) (c_weight0 : Callee P w K mg base (M + 1) "_law_d_weight" ["weights", "word"] (spDWeight K M)) : ∀ n, n ≤ M → Callee P w K mg base (n + M + 2) "_law_d_above" ["rows", "one", "other"] (spDAbove K n)
  | 0, _ => by
    obtain ⟨f, fd, F, b, m⟩ := D.ex
    refine ⟨f, fd, F.ok sc__law_d_above (fun vs H Q E h => ?_) (fun cdv A outer s H vs Q E hr h => ?_), b, F.kp, m⟩
    · obtain ⟨o, v1, v2, x, y, wt, rfl, _⟩ := h
      rfl
    · obtain ⟨o, v1, v2, rws, x, y, rfl, _, _, _, _, h, _⟩ := h
      exact absurd h (Nat.not_lt_zero _)
  | n + 1, hnm => by
    have c__law_d_above := ok_d_above G D hm c_parts0 c_weight0 n (by omega)
    have c__law_d_parts := c_parts0
    have c__law_d_weight := c_weight0
    obtain ⟨f, fd, F, b, m⟩ := D.ex
    have z_isinstance := G.isinstance
    have z_str := G.str
    have z_any := G.any
    have z_zip := G.zip
    have z_dict := G.dict
    have eL : n + 1 + M + 2 = (n + M + 2) + 1 := by omega
    rw [eL]
    refine ⟨f, fd, F.ok sc__law_d_above (fun vs H Q E h => ?_) (fun cdv A outer s H vs Q E hr h => ?_), b, F.kp, m⟩
    · obtain ⟨o, v1, v2, x, y, wt, rfl, _⟩ := h
      rfl
    · obtain ⟨r, v1, v2, rws, x, y, rfl, FL, hr0, hd1, hd2, hx, hy, zx, zy, k⟩ := h
      have hr__law_d_above := hr
      have hr__law_d_parts := hr.mono (show M + 1 ≤ n + M + 2 by omega)
      have hr__law_d_weight := hr.mono (show M + 1 ≤ n + M + 2 by omega)
      have hu := hu_of hr
      have hu64 : (A.deeper (envOfC "_law_d_above" (defScope st__law_d_above) s.heap.objs.size f cdv)).units + 64 < cLine := by have := hr.un; omega
      refine ⟨_, (pss_cons (ps_if (PW.pt (pw_or (pt_cmpR (op_eqD hu64) (pv 1) (pv 2) (nomark _)) (pw_or1 (pt_val (pe_callB call_isi rfl z_isinstance boot_isinstance (pa_cons (pv 1) (pa_cons (pe_bltn (v := .ty "str") rfl z_str boot_str rfl) pa_nil))))))) (pss_one (ps_ret pe_bl)) pss_nil) (pss_cons (ps_par (i := 3) (j := 4) rfl sc__law_d_above.nd rfl rfl (by decide) rfl rfl (pa_cons (pe_callTy (call_dictP rfl) rfl z_dict boot_dict (pa_cons (pv 0) pa_nil)) (pa_cons (pe_lc (own := [("name", 10), ("weight", 11)]) (g := (gTup K 2 (gCons (gName 10) (gCons (gName 11) gNil)))) (tt := tYes) rfl sc__law_d_above.nd (pi_list (pv 0)) (blkOk_by (N := ["rows", "one", "other", "weights", "names", "many", "few", "heavy", "light", "unlike", "name", "weight", "place", "part", "variable", "near", "far"]) (sc := defScope st__law_d_above) (by decide +kernel)) (fun _ _ _ _ _ => (pg_tup rfl (pgs_cons (pg_name (i := 10) sc__law_d_above.nd rfl (Or.inl rfl)) (pgs_cons (pg_name (i := 11) sc__law_d_above.nd rfl (Or.inl rfl)) pgs_nil)))) (fun _ _ _ _ _ => pts_nil) (fun _ _ _ _ _ => (pv 10))) pa_nil)) rfl) (pss_cons (ps_set (i := 5) sc__law_d_above.nd rfl (Or.inr rfl) (pe_lc (own := [("place", 12), ("part", 13)]) (g := (gTup K 2 (gCons (gName 12) (gCons (gName 13) gNil)))) rfl sc__law_d_above.nd (pi_list (pe_own c__law_d_parts hr__law_d_parts rfl (pa_cons (pv 1) pa_nil))) (blkOk_by (N := ["rows", "one", "other", "weights", "names", "many", "few", "heavy", "light", "unlike", "name", "weight", "place", "part", "variable", "near", "far"]) (sc := defScope st__law_d_above) (by decide +kernel)) (fun _ _ _ _ _ => (pg_tup rfl (pgs_cons (pg_name (i := 12) sc__law_d_above.nd rfl (Or.inl rfl)) (pgs_cons (pg_name (i := 13) sc__law_d_above.nd rfl (Or.inl rfl)) pgs_nil)))) (fun _ _ _ _ _ => (pts_one (pt_val (pe_callB (show CallR _ _ (rIsi K) from call_isi) rfl z_isinstance boot_isinstance (pa_cons (pv 13) (pa_cons (pe_bltn (v := .ty "str") rfl z_str boot_str rfl) pa_nil)))))) (fun _ _ _ _ _ => (pv 13)))) (pss_cons (ps_set (i := 6) sc__law_d_above.nd rfl (Or.inr rfl) (pe_lc (own := [("place", 12), ("part", 13)]) (g := (gTup K 2 (gCons (gName 12) (gCons (gName 13) gNil)))) rfl sc__law_d_above.nd (pi_list (pe_own c__law_d_parts hr__law_d_parts rfl (pa_cons (pv 2) pa_nil))) (blkOk_by (N := ["rows", "one", "other", "weights", "names", "many", "few", "heavy", "light", "unlike", "name", "weight", "place", "part", "variable", "near", "far"]) (sc := defScope st__law_d_above) (by decide +kernel)) (fun _ _ _ _ _ => (pg_tup rfl (pgs_cons (pg_name (i := 12) sc__law_d_above.nd rfl (Or.inl rfl)) (pgs_cons (pg_name (i := 13) sc__law_d_above.nd rfl (Or.inl rfl)) pgs_nil)))) (fun _ _ _ _ _ => (pts_one (pt_val (pe_callB (show CallR _ _ (rIsi K) from call_isi) rfl z_isinstance boot_isinstance (pa_cons (pv 13) (pa_cons (pe_bltn (v := .ty "str") rfl z_str boot_str rfl) pa_nil)))))) (fun _ _ _ _ _ => (pv 13)))) (pss_cons (ps_if (pt_val (pe_callB (cr_any rfl) rfl z_any boot_any (pa_cons (pe_lc (own := [("variable", 14)]) (g := (gName 14)) (tt := tYes) rfl sc__law_d_above.nd (pi_list (pv 6)) (blkOk_by (N := ["rows", "one", "other", "weights", "names", "many", "few", "heavy", "light", "unlike", "name", "weight", "place", "part", "variable", "near", "far"]) (sc := defScope st__law_d_above) (by decide +kernel)) (fun _ _ _ _ _ => (pg_name (i := 14) sc__law_d_above.nd rfl (Or.inl rfl))) (fun _ _ _ _ _ => pts_nil) (fun _ _ _ _ _ => pe_never)) pa_nil))) (pss_one (ps_ret pe_bl)) pss_nil) (pss_cons (ps_par (i := 7) (j := 8) rfl sc__law_d_above.nd rfl rfl (by decide) rfl rfl (pa_cons (pe_own c__law_d_weight hr__law_d_weight rfl (pa_cons (pv 3) (pa_cons (pv 1) pa_nil))) (pa_cons (pe_own c__law_d_weight hr__law_d_weight rfl (pa_cons (pv 3) (pa_cons (pv 2) pa_nil))) pa_nil)) rfl) (pss_cons (ps_if (PW.pt (pw_or (pt_cmpR op_ne (pv 7) (pv 8) (nomark _)) (pw_or1 (pt_val (pe_callB call_isi rfl z_isinstance boot_isinstance (pa_cons (pv 2) (pa_cons (pe_bltn (v := .ty "str") rfl z_str boot_str rfl) pa_nil))))))) (pss_one (ps_ret (pe_cmpR op_gt (pv 7) (pv 8) (nomark _)))) pss_nil) (pss_cons (ps_if (pt_cmpR op_ne (pe_ix ix_tup (pv 1) pe_int (fun _ _ => rfl)) (pe_ix ix_tup (pv 2) pe_int (fun _ _ => rfl)) (nomark _)) (pss_one (ps_ret (pe_cmpR op_gt (pe_bm PySem.F.plainAttrs_list PySem.F.slot_list_index PySem.F.type_list_index mt_index (pv 4) (pa_cons (pe_ix ix_tup (pv 1) pe_int (fun _ _ => rfl)) pa_nil)) (pe_bm PySem.F.plainAttrs_list PySem.F.slot_list_index PySem.F.type_list_index mt_index (pv 4) (pa_cons (pe_ix ix_tup (pv 2) pe_int (fun _ _ => rfl)) pa_nil)) (nomark _)))) pss_nil) (pss_cons (ps_setLc (i := 9) (own := [("near", 15), ("far", 16)]) (g := (gTup K 2 (gCons (gName 15) (gCons (gName 16) gNil)))) rfl sc__law_d_above.nd rfl rfl (sw_true rfl rfl rfl (by decide +kernel)) (RZ.pi_zipA rfl z_zip (pa_cons (pe_slice sl_tupA (pv 1) (po_some pe_int) po_none) (pa_cons (pe_slice sl_tupA (pv 2) (po_some pe_int) po_none) pa_nil))) (blkOk_by (N := ["rows", "one", "other", "weights", "names", "many", "few", "heavy", "light", "unlike", "name", "weight", "place", "part", "variable", "near", "far"]) (sc := defScope st__law_d_above) (by decide +kernel)) (fun _ _ _ _ _ => (pg_tup rfl (pgs_cons (pg_name (i := 15) sc__law_d_above.nd rfl (Or.inl rfl)) (pgs_cons (pg_name (i := 16) sc__law_d_above.nd rfl (Or.inl rfl)) pgs_nil)))) (fun _ _ _ _ _ => (pts_one (pt_cmpR (show OpR _ _ (rNeD K) from (op_neD hu64)) (pv 15) (pv 16) (nomark _)))) (fun _ _ _ _ _ => (pe_tup (pa_cons (pv 15) (pa_cons (pv 16) pa_nil))))) (pss_one (ps_ret (pe_own c__law_d_above hr__law_d_above rfl (pa_cons (pv 0) (pa_cons (pe_ix ix_tup (pe_ix ix_list (pv 9) pe_int (fun _ _ => rfl)) pe_int (fun _ _ => rfl)) (pa_cons (pe_ix ix_tup (pe_ix ix_list (pv 9) pe_int (fun _ _ => rfl)) pe_int (fun _ _ => rfl)) pa_nil))))))))))))))), ?_⟩
      generalize ewt : wtOf rws = wt at k
      generalize erk : rkOf rws = rk at k
      have sx : SeqAt.shaped x.dat = true := W.shaped_dat (by omega)
      have sy : SeqAt.shaped y.dat = true := W.shaped_dat (by omega)
      refine q_when (decide (x = y)) (fun Q1 q1 => ?_) (fun hb H1 e1 => ?_) (fun hb H1 e1 => ?_)
      · walk_at "rd"
        refine ⟨_, rfl, _, rfl, _, _, hd1, hd2, sx, sy, _, rfl, ?_⟩
        rw [W.eqv_dat]
        refine ite_b (fun q => ?_) (fun q => ?_)
        · have := q1 H (Same.refl _)
          rw [q] at this
          exact this
        · refine ⟨_, rfl, isi1 hd1 (kb_str x.dat) ⟨_, rfl, ?_⟩⟩
          rw [isStr_no]
          have := q1 H (Same.refl _)
          rw [q] at this
          exact this
      · have e := of_decide_eq_true hb
        subst e
        have := k H1 e1
        rw [W.abv_irr] at this
        exact this
      have hxy : x ≠ y := of_decide_eq_false hb
      cases hr0 with
      | @lst la xs _ hla dxs =>
      obtain ⟨ps, rfl, hps⟩ := rows_addr dxs
      -- the weights' dict and the names' list
      refine q_seq (fun σ' H' => ∃ d nl, σ' = [some (.ref la), some v1, some v2, some (.ref d), some (.ref nl), none, none, none, none, none, none, none, none, none, none, none, none] ∧ Same H H' ∧ H' d = some (.dK (kws rws)) ∧ H' nl = some (.lst ((rws.map (·.1)).map V.str))) (fun Z z => ?_) (fun σ2 H2 hp2 => ?_)
      · walk_at "rd"
        refine ⟨_, rfl, la, ps, kws rws, rfl, e1.seq hla, paired_imp (fun p kv q => Same.tupL e1 q) hps, fun d hd => ?_⟩
        rw [mergeK_rows FL.ok]
        have e2 := same_new hd (.dK (kws rws))
        refine rd_lc ?_
        walk_at "rd"
        refine ⟨_, rfl, la, rfl, ⟨_, (e1.trans e2).seq hla⟩, ?_⟩
        have lps : ps.length = rws.length := by have := paired_len hps; unfold kws at this; rw [List.length_map] at this; exact this
        refine lcp (K := K) (N := no0) (tr0 _) (src_list ((e1.trans e2).seq hla)) (by rw [List.length_map]; have := FL.ok.len; omega) (fun _ => true) (fun i => ((rws.map fun z => PyData.str z.1)).getD i .none) (fun i y H' N' Q2 Q3 hi e r tr hs' q2 q3 => ?_) (fun Dl H3 ys nD e3 hy da => ?_)
        · have hrw : ∃ nw, rws[i]? = some nw := ⟨_, List.getElem?_eq_getElem (by rw [List.length_map] at hi; omega)⟩
          obtain ⟨nw, hnw⟩ := hrw
          obtain ⟨d1, hd1', hy1⟩ := DpAll.get (DpAll.same ((e1.trans e2).trans e) dxs) r
          rw [rowsD, List.getElem?_map, hnw] at hd1'
          cases (Option.some.inj hd1')
          cases hy1 with
          | @tup T us _ hT dus =>
          cases dus with
          | @cons w1 _ us _ dv1 dus =>
          cases dus with
          | @cons w2 _ us _ dv2 dus =>
          cases dus
          cases dv1
          refine g_pairS hT rfl ?_
          walk_at "rd"
          refine ⟨rfl, iteT ?_⟩
          refine ⟨_, rfl, q2 _ _ (Same.refl _) rfl ?_⟩
          rw [List.getD_eq_getElem?_getD, List.getElem?_map, hnw]
          exact .str _
        · have ed : ((List.range (ps.map V.ref).length).filter (fun _ => true)).map (fun i => ((rws.map fun z => PyData.str z.1)).getD i PyData.none) = (rws.map (·.1)).map PyData.str := by
            have := map_range (rws.map fun z => PyData.str z.1) id PyData.none
            rw [List.length_map, List.map_id] at this
            rw [List.length_map, lps, List.map_map]
            exact this
          rw [ed] at da
          have ey := DpAll.strs da
          refine ⟨_, _, rfl, z _ _ ⟨d, Dl, rfl, (e1.trans e2).trans e3, e3 _ _ upd_same, by rw [hy, ey]⟩⟩
      obtain ⟨d, nl, rfl, s2, hdk, hnl⟩ := hp2
      -- no variables in ground words
      refine q_seq (fun σ' H' => ∃ m1, σ' = [some (.ref la), some v1, some v2, some (.ref d), some (.ref nl), some (.ref m1), none, none, none, none, none, none, none, none, none, none, none] ∧ Same H2 H' ∧ H' m1 = some (.lst [])) (fun Z z => ?_) (fun σ3 H3 hp3 => ?_)
      · walk_at "rd"
        refine rd_lc ?_
        walk_at "rd"
        refine ⟨_, rfl, no0, v1, x, rfl, tr0 _, by rw [hide0]; exact Dp.same s2 hd1, by omega, zx, fun H5 l ys zs e5 hl d5 lz q5 => ?_⟩
        rw [hide0] at d5
        have ly := paired_len d5
        refine ⟨l, rfl, ⟨_, .inl (.inl hl)⟩, ?_⟩
        refine lcp (K := K) (N := no0) (tr0 _) (src_list (.inl (.inl hl))) (by omega) (fun _ => false) (fun i => PyData.none) (fun i y H' N' Q2 Q3 hi e r tr hs' q2 q3 => ?_) (fun Dl H6 ys' nD e6 hy da => ?_)
        · obtain ⟨T, L, wv, zw, rfl, hT, dw⟩ := drop_strs (d5.same e) r
          refine g_pair hT rfl ?_
          walk_at "rd"
          refine ⟨rfl, _, rfl, isi1 dw (kb_str zw.dat) ⟨_, rfl, ?_⟩⟩
          rw [isStr_no]
          exact iteF (q3 _ (Same.refl _) rfl)
        · have : ys' = [] := by
            rw [show (List.range ys.length).filter (fun _ => false) = [] from List.filter_eq_nil_iff.mpr (by simp)] at da
            cases da
            rfl
          subst this
          exact z _ _ ⟨Dl, rfl, e5.trans e6, hy⟩
      obtain ⟨m1, rfl, s3, hm1⟩ := hp3
      have s23 := s2.trans s3
      refine q_seq (fun σ' H' => ∃ m2, σ' = [some (.ref la), some v1, some v2, some (.ref d), some (.ref nl), some (.ref m1), some (.ref m2), none, none, none, none, none, none, none, none, none, none] ∧ Same H3 H' ∧ H' m2 = some (.lst [])) (fun Z z => ?_) (fun σ4 H4 hp4 => ?_)
      · walk_at "rd"
        refine rd_lc ?_
        walk_at "rd"
        refine ⟨_, rfl, no0, v2, y, rfl, tr0 _, by rw [hide0]; exact Dp.same s23 hd2, by omega, zy, fun H5 l ys zs e5 hl d5 lz q5 => ?_⟩
        rw [hide0] at d5
        have ly := paired_len d5
        refine ⟨l, rfl, ⟨_, .inl (.inl hl)⟩, ?_⟩
        refine lcp (K := K) (N := no0) (tr0 _) (src_list (.inl (.inl hl))) (by omega) (fun _ => false) (fun i => PyData.none) (fun i y H' N' Q2 Q3 hi e r tr hs' q2 q3 => ?_) (fun Dl H6 ys' nD e6 hy da => ?_)
        · obtain ⟨T, L, wv, zw, rfl, hT, dw⟩ := drop_strs (d5.same e) r
          refine g_pair hT rfl ?_
          walk_at "rd"
          refine ⟨rfl, _, rfl, isi1 dw (kb_str zw.dat) ⟨_, rfl, ?_⟩⟩
          rw [isStr_no]
          exact iteF (q3 _ (Same.refl _) rfl)
        · have : ys' = [] := by
            rw [show (List.range ys.length).filter (fun _ => false) = [] from List.filter_eq_nil_iff.mpr (by simp)] at da
            cases da
            rfl
          subst this
          exact z _ _ ⟨Dl, rfl, e5.trans e6, hy⟩
      obtain ⟨m2, rfl, s4, hm2⟩ := hp4
      have s34 := s3.trans s4
      have s24 := s2.trans s34
      refine q_when false (fun Q1 q1 => ?_) (fun hb => nomatch hb) (fun _ H5 e5 => ?_)
      · walk_at "rd"
        refine rd_lc ?_
        walk_at "rd"
        refine ⟨_, rfl, m2, rfl, ⟨_, .inl (.inl hm2)⟩, ?_⟩
        refine lcp (K := K) (N := no0) (tr0 _) (src_list (.inl (.inl hm2))) (Nat.zero_le _) (fun _ => true) (fun _ => PyData.none) (fun i y H' N' Q2 Q3 hi e r tr hs' q2 q3 => absurd hi (Nat.not_lt_zero _)) (fun Dl H6 ys nD e6 hy6 da => ?_)
        cases da
        exact ⟨Dl, [], rfl, .inl (.inl hy6), _, rfl, q1 _ e6⟩
      have s45 := s34.trans e5
      have s5 := s2.trans s45
      have wtd := FL.wtAt (H := H5) (s45 _ _ hdk)
      rw [ewt] at wtd
      refine q_seq (fun σ' H' => σ' = [some (.ref la), some v1, some v2, some (.ref d), some (.ref nl), some (.ref m1), some (.ref m2), some (.int (x.wgt wt)), some (.int (y.wgt wt)), none, none, none, none, none, none, none, none] ∧ Same H5 H') (fun Z z => ?_) (fun σ7 H7 hp7 => ?_)
      · walk_at "rd"
        refine ⟨_, rfl, _, rfl, _, _, x, wt, rfl, wtd, Dp.same s5 hd1, by omega, fun H6 e6 => ?_⟩
        refine ⟨_, rfl, _, rfl, _, _, y, wt, rfl, wtd.same e6, Dp.same (s5.trans e6) hd2, by omega, fun H7 e7 => ?_⟩
        exact ⟨_, _, rfl, z _ _ ⟨rfl, e6.trans e7⟩⟩
      obtain ⟨rfl, s57⟩ := hp7
      have s7 := s5.trans s57
      refine q_when (decide (x.wgt wt ≠ y.wgt wt)) (fun Q1 q1 => ?_) (fun hb H8 e8 => ?_) (fun hb H8 e8 => ?_)
      · walk_at "rd"
        refine ⟨_, rfl, _, rfl, rfl, _, rfl, ?_⟩
        have ee : (!decide (V.int (x.wgt wt) = V.int (y.wgt wt))) = decide (x.wgt wt ≠ y.wgt wt) := by
          by_cases q : x.wgt wt = y.wgt wt
          · rw [q]; simp
          · have : V.int (x.wgt wt) ≠ V.int (y.wgt wt) := fun z => q (V.int.inj z)
            simp [q, this]
        rw [ee]
        refine ite_b (fun q => ?_) (fun q => ?_)
        · have := q1 H7 (Same.refl _)
          rw [q] at this
          exact this
        · refine ⟨_, rfl, isi1 (Dp.same s7 hd2) (kb_str y.dat) ⟨_, rfl, ?_⟩⟩
          rw [isStr_no]
          have := q1 H7 (Same.refl _)
          rw [q] at this
          exact this
      · walk_at "rd"
        refine ⟨_, rfl, _, rfl, _, _, rfl, rfl, ?_⟩
        have := k H8 (s7.trans e8)
        rw [W.abv_eq, if_pos (of_decide_eq_true hb)] at this
        exact this
      have hw : ¬ x.wgt wt ≠ y.wgt wt := of_decide_eq_false hb
      have s8 := s7.trans e8
      have hdd1 := hd1
      have hdd2 := hd2
      obtain ⟨a1, ks1, rfl, hs1, hk1⟩ := word_at0 hd1
      obtain ⟨a2, ks2, rfl, hs2, hk2⟩ := word_at0 hd2
      refine q_when (decide (x.nm ≠ y.nm)) (fun Q1 q1 => ?_) (fun hb H9 e9 => ?_) (fun hb H9 e9 => ?_)
      · walk_at "rd"
        refine ⟨_, rfl, a1, _, 0, _, rfl, rfl, Same.tupL s8 hs1, atI_nat (j := 0) rfl, _, rfl, a2, _, 0, _, rfl, rfl, Same.tupL s8 hs2, atI_nat (j := 0) rfl, rfl, _, rfl, ?_⟩
        have ee : (!decide (V.str x.nm = V.str y.nm)) = decide (x.nm ≠ y.nm) := by
          by_cases q : x.nm = y.nm
          · rw [q]; simp
          · have : V.str x.nm ≠ V.str y.nm := fun z => q (V.str.inj z)
            simp [q, this]
        rw [ee]
        exact q1 _ (Same.refl _)
      · walk_at "rd"
        have s9 := s8.trans e9
        have nl9 := ((s45.trans s57).trans (e8.trans e9)) _ _ hnl
        obtain ⟨j1, p1, hp1, ep1⟩ := FL.all x
        obtain ⟨j2, p2, hp2, ep2⟩ := FL.all y
        have hf : ((rws.map (·.1)).map V.str).all flatV = true := by
          rw [List.all_eq_true]
          intro z hz
          obtain ⟨_, _, rfl⟩ := List.mem_map.mp hz
          rfl
        have n1 := names_at FL.ok hp1
        have n2 := names_at FL.ok hp2
        have r1 : rk x.nm = j1 := by rw [← erk, ← ep1]; exact rkOf_get FL.ok hp1
        have r2 : rk y.nm = j2 := by rw [← erk, ← ep2]; exact rkOf_get FL.ok hp2
        rw [ep1] at n1
        rw [ep2] at n2
        refine ⟨_, rfl, .inl ⟨rfl, _, .inl (.inl nl9)⟩, _, rfl, a1, _, 0, _, rfl, rfl, Same.tupL s9 hs1, atI_nat (j := 0) rfl, ?_⟩
        refine ⟨nl, _, _, j1, _, rfl, rfl, .inl (.inl nl9), rfl, hf, n1.1, beq_self_eq_true _, n1.2, ?_⟩
        refine ⟨_, rfl, .inl ⟨rfl, _, .inl (.inl nl9)⟩, _, rfl, a2, _, 0, _, rfl, rfl, Same.tupL s9 hs2, atI_nat (j := 0) rfl, ?_⟩
        refine ⟨nl, _, _, j2, _, rfl, rfl, .inl (.inl nl9), rfl, hf, n2.1, beq_self_eq_true _, n2.2, ?_⟩
        refine ⟨_, _, rfl, rfl, ?_⟩
        have := k H9 s9
        rw [W.abv_eq, if_neg hw, if_pos (of_decide_eq_true hb), r1, r2] at this
        show Q (.bl (decide (((j2 : Nat) : Int) < (j1 : Nat)))) H9
        rw [show decide (((j2 : Nat) : Int) < (j1 : Nat)) = decide (j2 < j1) from by simp]
        exact this
      have hn : x.nm = y.nm := Decidable.not_not.mp (of_decide_eq_false hb)
      have s9 := s8.trans e9
      obtain ⟨lk, i0, r0, xi0, yi0, hf, hxi0, hyi0, hab⟩ := W.kabv_first wt rk hn hxy
      refine q_seq (fun σ' H' => ∃ (l : Addr) (ys : List V), σ' = [some (.ref la), some (.ref a1), some (.ref a2), some (.ref d), some (.ref nl), some (.ref m1), some (.ref m2), some (.int (x.wgt wt)), some (.int (y.wgt wt)), some (.ref l), none, none, none, none, none, none, none] ∧ Same H H' ∧ H' l = some (.lst ys) ∧ DpAll K H' ys (((List.range x.kids.length).filter (fun i => !decide (x.kids[i]? = y.kids[i]?))).map fun i => PyData.tuple [(x.kids.map W.dat).getD i .none, (y.kids.map W.dat).getD i .none])) (fun Z z => ?_) (fun σ10 H10 hp10 => ?_)
      · walk_at "rd"
        refine rd_lc ?_
        refine ⟨_, rfl, 1, rfl, a1, _, rfl, Same.tupL s9 hs1, fun q => absurd q (cut1_ne _ _), fun _ q1 hq1 => ?_⟩
        rw [cut1]
        have t1 : Same H (upd H9 q1 (.tup ks1)) := s9.trans (same_new hq1 _)
        refine ⟨_, rfl, 1, rfl, a2, _, rfl, Same.tupL t1 hs2, fun q => absurd q (cut1_ne _ _), fun _ q2 hq2 => ?_⟩
        rw [cut1]
        have t2 := t1.trans (same_new hq2 (.tup ks2))
        refine ⟨q1, q2, ks1, ks2, rfl, .inr ⟨.inl (.inl (same_new hq2 _ _ _ upd_same)), .inl (.inl upd_same), ?_⟩⟩
        have l1 := kids_lk hk1
        have l2 := kids_lk hk2
        refine lcp (K := K) (N := no0) (tr0 _) (src_zipT (.inl (.inl (same_new hq2 _ _ _ upd_same))) (.inl (.inl upd_same)) (by omega)) (by have := W.kids_len x; omega) (fun i => !decide (x.kids[i]? = y.kids[i]?)) (fun i => PyData.tuple [(x.kids.map W.dat).getD i .none, (y.kids.map W.dat).getD i .none]) (fun i y' H' N' Q2 Q3 hi e r tr hs' g2 g3 => ?_) (fun Dl H6 ys nD e6 hy6 da => ?_)
        · have t3 := t2.trans e
          obtain ⟨tp, u, v, rfl, htp, r1, r2⟩ := r
          obtain ⟨xi, hxi, hxd, tx⟩ := kid_at (DpAll.same t3 hk1) r1
          obtain ⟨yi, hyi, hyd, ty⟩ := kid_at (DpAll.same t3 hk2) r2
          refine g_pair htp rfl ?_
          walk_at "rd"
          refine ⟨rfl, _, rfl, _, rfl, ?_⟩
          refine ⟨_, _, hxd, hyd, W.shaped_dat (by omega), W.shaped_dat (by omega), _, rfl, ?_⟩
          rw [W.eqv_dat]
          have ek : (!decide (x.kids[i]? = y.kids[i]?)) = !decide (xi = yi) := by rw [hxi, hyi]; simp
          refine ite_b (fun q => ?_) (fun q => g3 _ (Same.refl _) (ek.trans q))
          refine ⟨_, rfl, _, rfl, by decide, fun p9 hp9 => g2 _ _ (same_new hp9 _) (ek.trans q) ?_⟩
          refine .tup (.inl (.inl ((hide_off (tr.off hp9)).trans upd_same))) ?_
          have hh1 := DpAll.get (DpAll.same (fun a o q => hs' a o (by rw [hide0]; exact q)) (DpAll.same t2 hk1)) r1
          have hh2 := DpAll.get (DpAll.same (fun a o q => hs' a o (by rw [hide0]; exact q)) (DpAll.same t2 hk2)) r2
          obtain ⟨d1, hd1', hh1⟩ := hh1
          obtain ⟨d2, hd2', hh2⟩ := hh2
          rw [List.getD_eq_getElem?_getD, List.getD_eq_getElem?_getD, hd1', hd2']
          have em := hide_mono (N := N') (same_new hp9 (.tup [u, v]))
          exact .cons (Dp.same em hh1) (.cons (Dp.same em hh2) .nil)
        · rw [hide0, l1] at da
          exact z _ _ ⟨Dl, ys, rfl, t2.trans e6, hy6, da⟩
      obtain ⟨l, ys, rfl, s10, hl10, da⟩ := hp10
      walk_at "rd"
      rw [hf] at da
      cases da with
      | @cons v _ vs _ dv das =>
      dsimp only at dv
      rw [List.getD_eq_getElem?_getD, List.getD_eq_getElem?_getD, List.getElem?_map, List.getElem?_map, hxi0, hyi0] at dv
      cases dv with
      | @tup ta us _ hta dus =>
      cases dus with
      | @cons u1 _ us _ du1 dus =>
      cases dus with
      | @cons u2 _ us _ du2 dus =>
      cases dus
      have q1 : xi0.ht < x.ht := W.kids_ht (List.mem_of_getElem? hxi0)
      have q2 : yi0.ht < y.ht := W.kids_ht (List.mem_of_getElem? hyi0)
      have z1 := W.sz_eq x
      have z2 := W.sz_eq y
      have z3 : xi0.sz ≤ (x.kids.map W.sz).sum := le_sum_of_mem (List.mem_map.mpr ⟨_, List.mem_of_getElem? hxi0, rfl⟩)
      have z4 : yi0.sz ≤ (y.kids.map W.sz).sum := le_sum_of_mem (List.mem_map.mpr ⟨_, List.mem_of_getElem? hyi0, rfl⟩)
      refine ⟨_, rfl, _, rfl, l, _, 0, _, rfl, rfl, .inl (.inl hl10), atI_nat (j := 0) rfl, ta, _, 0, _, rfl, rfl, hta, atI_nat (j := 0) rfl, ?_⟩
      refine ⟨_, rfl, l, _, 0, _, rfl, rfl, .inl (.inl hl10), atI_nat (j := 0) rfl, ta, _, 1, _, rfl, rfl, hta, atI_nat (j := 1) rfl, ?_⟩
      refine ⟨_, _, _, rws, _, _, rfl, FL, .lst (s10.seq hla) (DpAll.same s10 dxs), du1, du2, by omega, by omega, by omega, by omega, fun H11 e11 => ?_⟩
      have := k H11 (s10.trans e11)
      rw [W.abv_same wt rk (Decidable.not_not.mp hw) hn, hab] at this
      rw [ewt, erk]
      exact this
end
end K29

-- text: Law3
set_option linter.all false
set_option maxRecDepth 100000
set_option maxHeartbeats 4000000
namespace K29
open PySem PySem.Spec PyProof.Rows L2 DB
local macro_rules | `(tactic| walk_at "rd") => `(tactic| (dsimp only [cxOf, Cx.nox, L2.start, tRet, tRetN, tCB, tCons, tNil, tC, tVar, tTup, tLst, tB, tTest, tAnd, tOr, tNot, tAndV, tOrV, tNotV, tIfS, tIf, tSeq, tNext, tDrop, tOp, tUn, tAsg, gName, gSub, tSl, tPart, tNoPart, tCall, tPar, tBM, tChain, tYes, StX.tStar, tFld, tNotN, tIsN, tDNotIn, tDIn, tDGet, tDGet2, tDNewK, List.length_cons, List.length_nil, List.set_cons_zero, List.set_cons_succ, List.nil_append, List.cons_append, List.append_nil, gTup, gCons, gNil, tLockE, iKeys, XR.iZipTN, sFld, sDPut, iEnum, XR.iEnumK, XR.iEnumT, iList, RZ.iZipA, iTup, iRng1, iRng2]))
section
variable {P : Program} {w : World} {K : PySem.W.Frag} {mg : Str → Option Value} {base : Heap}

def rLenQ (K : PySem.W.Frag) : List V → Hp → VK → Prop := fun xs H Q => ∃ p ys, xs = [V.ref p] ∧ (SqL K H p ys ∨ SqT K H p ys) ∧ Q (.int (ys.length : Nat)) H
theorem pe_bmK {X : Cx} {K : PySem.W.Frag} {o e : Expr} {es : List Expr} {to : TE} {t : TA} {name : Str} {apos cpos : Pos} {T id : String} {r : V → List V → Hp → VK → Prop} (hK : X.K = K) (pa : PlainAttrs T) (slot : Slot T name id) (hty : typeOf (.builtin id) = pure (.type "method_descriptor")) (hm : MtR X id r) (ho : PE X o to) (ha : PA X (e :: es) t)
    (hbase : attributeBase o name X.env (eval o X.env) = eval o X.env := by rfl)
    (hfew : ((backTo cpos (starEach (e :: es) X.env)).all (fun x => !x.1) && (backToKw cpos (keywordEach [] X.env)).all (fun x => x.1.isSome)
      && decide ((e :: es).length + ([] : List Keyword).length + (if ([] : List Keyword).isEmpty then 0 else 1) < 30)) = true := by rfl)
    (hline : (apos.endLine == cpos.line) = true := by rfl) (hs : starEach (e :: es) X.env = (false, eval e X.env) :: starEach es X.env := by rfl) (hplain : (backTo cpos (starEach es X.env)).any (·.1) = false := by rfl) :
    PE X (.Call (.Attribute o name apos) (e :: es) [] cpos) (tBM K T r to t) := by
  subst hK
  exact pe_bm pa slot hty hm ho ha hbase hfew hline hs hplain
theorem whq {α : Type} {c : TT} {tb : TS} {D : Ends} {σ : L2.St} {H : Hp} (Pv : α → L2.St → Hp → Prop) (μ : α → Nat) (bt : α → Bool) (a0 : α) (h0 : Pv a0 σ H) (ht : ∀ a σ H, Pv a σ H → TT1 c σ H (bt a))
    (hs : ∀ a σ H H1, Pv a σ H → bt a = true → Same H H1 → tb { D with nx := fun σ' H' => ∃ a', μ a' < μ a ∧ Pv a' σ' H', ct := fun σ' H' => ∃ a', μ a' < μ a ∧ Pv a' σ' H', bk := D.nx } σ H1) (fin : ∀ a σ H H1, Pv a σ H → bt a = false → Same H H1 → D.nx σ H1) : tWhile c tb D σ H := by
  refine ⟨fun m σ H => ∃ a, m = μ a ∧ Pv a σ H, ⟨_, a0, rfl, h0⟩, ?_⟩
  rintro m σ H ⟨a, rfl, p⟩
  refine ht a σ H p _ fun H1 e => ?_
  cases hb : bt a with
  | true =>
    rw [if_pos rfl]
    exact ⟨_, fun σ' H' ⟨a', l, p'⟩ => ⟨_, l, a', rfl, p'⟩, hs a σ H H1 p hb e⟩
  | false =>
    rw [if_neg Bool.false_ne_true]
    exact fin a σ H H1 p hb e
/-! ### the stream -/
def two (s c : Addr) : Addr → Prop := fun a => a = s ∨ a = c
/-- all but N's objects is kept -/
def Kept (N : Addr → Prop) (H H' : Hp) : Prop := Same (hide N H) (hide N H')
theorem Kept.sub {N M : Addr → Prop} {H H' : Hp} (k : Kept N H H') (h : ∀ a, N a → M a) : Kept M H H' := fun a o q => by
  obtain ⟨n, q⟩ := hide_some q
  have n' : ¬ N a := fun z => n (h a z)
  rw [hide_off n]
  have := k a o (by rw [hide_off n']; exact q)
  rw [hide_off n'] at this
  exact this
theorem Kept.trans {N : Addr → Prop} {H H' H'' : Hp} (k : Kept N H H') (l : Kept N H' H'') : Kept N H H'' := Same.trans k l
theorem Kept.refl {N : Addr → Prop} (H : Hp) : Kept N H H := Same.refl _
theorem Kept.of {N : Addr → Prop} {H H' : Hp} (e : Same H H') : Kept N H H' := hide_mono e
theorem Kept.at {N : Addr → Prop} {H H' : Hp} (k : Kept N H H') {a : Addr} {o : HO} (n : ¬ N a) (h : H a = some o) : H' a = some o := by
  have := k a o (by rw [hide_off n]; exact h)
  rw [hide_off n] at this
  exact this
theorem Kept.upd {N : Addr → Prop} {H H' : Hp} (k : Kept N H H') {a : Addr} {o : HO} (n : N a) : Kept N H (upd H' a o) := by
  unfold Kept
  rw [hide_in n]
  exact k
structure StrAt (s c : Addr) (H : Hp) (cells : List Int) (cur mix : Int) (cnt : Nat) : Prop where
  hs : H s = some (.lst [.ref c, .int cur, .int (cnt : Nat), .int mix])
  hc : H c = some (.lst (cells.map V.int))
  h0 : 0 ≤ cur
  m0 : 0 ≤ mix
  m1 : mix < 2147483647
theorem StrAt.ne {s c : Addr} {H : Hp} {cells : List Int} {cur mix : Int} {cnt : Nat} (h : StrAt s c H cells cur mix cnt) : c ≠ s := fun q => by
  have h1 := h.hs
  have h2 := h.hc
  subst q
  rw [h1] at h2
  have := HO.lst.inj (Option.some.inj h2)
  cases cells with
  | nil => cases this
  | cons x r => cases this
theorem StrAt.same {s c : Addr} {H H' : Hp} {cells : List Int} {cur mix : Int} {cnt : Nat} (h : StrAt s c H cells cur mix cnt) (e : Same H H') : StrAt s c H' cells cur mix cnt := ⟨e _ _ h.hs, e _ _ h.hc, h.h0, h.m0, h.m1⟩
/-- the stream, at most n draws made -/
def Stm (s c : Addr) (H : Hp) (n : Nat) : Prop := ∃ cells cur mix cnt, StrAt s c H cells cur mix cnt ∧ cnt ≤ n
theorem Stm.same {s c : Addr} {H H' : Hp} {n : Nat} (h : Stm s c H n) (e : Same H H') : Stm s c H' n := by
  obtain ⟨a, b, d, f, h1, h2⟩ := h
  exact ⟨a, b, d, f, h1.same e, h2⟩
theorem Stm.mono {s c : Addr} {H : Hp} {n m : Nat} (h : Stm s c H n) (l : n ≤ m) : Stm s c H m := by
  obtain ⟨a, b, d, f, h1, h2⟩ := h
  exact ⟨a, b, d, f, h1, by omega⟩
theorem Stm.ne {s c : Addr} {H : Hp} {n : Nat} (h : Stm s c H n) : c ≠ s := by
  obtain ⟨a, b, d, f, h1, h2⟩ := h
  exact h1.ne
theorem Stm.tr {s c : Addr} {H : Hp} {n : Nat} (h : Stm s c H n) : Tr (two s c) H := fun a q => by
  obtain ⟨_, b, d, f, h1, h2⟩ := h
  rcases q with rfl | rfl
  · rw [h1.hs]; exact fun z => nomatch z
  · rw [h1.hc]; exact fun z => nomatch z
theorem ints_shaped (ns : List Int) : SeqAt.shaped (.list (ns.map PyData.int)) = true := by
  have h1 : ∀ ns : List Int, PyData.canLayAll0 (ns.map PyData.int) = true := fun ns => by
    induction ns with
    | nil => rfl
    | cons n r ih => simp [PyData.canLayAll0, PyData.canLay0, ih]
  have h2 : ∀ ns : List Int, PyData.depthAll (ns.map PyData.int) ≤ 1 := fun ns => by
    induction ns with
    | nil => simp [PyData.depthAll]
    | cons n r ih => simp [PyData.depthAll, PyData.depth, ih]
  show (PyData.canLay0 (.list (ns.map PyData.int)) && decide (PyData.depth (.list (ns.map PyData.int)) ≤ 64)) = true
  have h3 := h2 ns
  have e1 : PyData.canLay0 (.list (ns.map PyData.int)) = true := by simp [PyData.canLay0, h1]
  rw [e1, Bool.true_and]
  refine decide_eq_true ?_
  simp [PyData.depth]
  omega
abbrev st__law_draw : Stmt := top 34
theorem sc__law_draw : FnScope ["stream", "many", "cell", "digit", "mixed"] ["stream", "many"] (defScope st__law_draw) := ⟨rfl, rfl, rfl, by decide +kernel, rfl, by decide +kernel, by decide +kernel⟩

theorem pos_lit {j : Int} (h : 0 < j) : (0 : Int) < j := h
theorem pop0 (n : Nat) : seqIndex? 0 (n + 1) = some 0 := by
  simp [seqIndex?]
theorem seqIx {r : Int} {n : Nat} (h0 : 0 ≤ r) (h1 : r < (n : Nat)) : seqIndex? r n = some r.toNat := by
  unfold seqIndex?
  dsimp only
  rw [if_neg (show ¬ r < 0 by omega), if_pos (by simp [h0, h1])]
theorem erase_perm {α : Type} : ∀ {l : List α} {i : Nat} (h : i < l.length), (l[i] :: l.eraseIdx i).Perm l
  | x :: l, 0, _ => List.Perm.refl _
  | x :: l, i + 1, h => by
    rw [List.eraseIdx_cons_succ]
    exact (List.Perm.swap _ _ _).trans (List.Perm.cons _ (erase_perm (l := l) (i := i) (by simpa using h)))
def spDraw : Sp := fun vs H Q _ => ∃ (s c : Addr) (m : Int) (n : Nat), vs = [.ref s, .int m] ∧ Stm s c H n ∧ n < 1000000 ∧ 0 < m ∧ m < 1073741824 ∧ ∀ (r : Int) H', 0 ≤ r → r < m → Kept (two s c) H H' → Stm s c H' (n + 1) → Q (.int r) H'
theorem ok_draw (G : Glob K mg) (D : Def K mg "_law_draw" st__law_draw ["stream", "many"]) : Callee P w K mg base 1 "_law_draw" ["stream", "many"] spDraw := by
  obtain ⟨f, fd, F, b, m⟩ := D.ex
  have z_int := G.int
  refine ⟨f, fd, F.ok sc__law_draw (fun vs H Q E h => ?_) (fun cdv A outer s_ H vs Q E hr h => ?_), b, F.kp, m⟩
  · obtain ⟨s, c, m, n, rfl, _⟩ := h
    rfl
  · obtain ⟨s, c, m, n, rfl, hst, hn, hm0, hm1, k⟩ := h
    have hu := hu_of hr
    have hu64 : (A.deeper (envOfC "_law_draw" (defScope st__law_draw) s_.heap.objs.size f cdv)).units + 64 < cLine := by have := hr.un; omega
    refine ⟨_, (pss_cons (ps_asg (pe_op op_add (pe_ix ix_list (pv 0) pe_int (fun _ _ => rfl)) pe_int) (pg_sub (pv 0) pe_int set_list)) (pss_cons (ps_while PassesOwn.never (PW.pt (pw_and (pt_cmpR op_eq (pe_ix ix_list (pv 0) pe_int (fun _ _ => rfl)) pe_int (nomark _)) (pw_and1 (pt_cmpR (op_neD hu64) (pe_ix ix_list (pv 0) pe_int (fun _ _ => rfl)) (pe_lst pa_nil) (nomark _))))) (pss_cons (ps_set (i := 2) sc__law_draw.nd rfl (Or.inl rfl) (pe_bm PySem.F.plainAttrs_list PySem.F.slot_list_pop PySem.F.type_list_pop mt_popAt (pe_ix ix_list (pv 0) pe_int (fun _ _ => rfl)) (pa_cons pe_int pa_nil))) (pss_cons (ps_asg (pe_op op_mod (pe_callTy call_int1 rfl z_int boot_int (pa_cons (pe_op op_add (pe_op op_add (pe_op op_mul (pe_ix ix_list (pv 0) pe_int (fun _ _ => rfl)) pe_int) (pv 2)) pe_int) pa_nil)) pe_int) (pg_sub (pv 0) pe_int set_list)) (pss_one (ps_asg (pe_ifExp (pt_cmpR op_ge (pv 2) (pe_op op_pow pe_int pe_int) (nomark _)) (pv 2) pe_int) (pg_sub (pv 0) pe_int set_list)))))) (pss_cons (ps_if (pt_cmpR op_gt (pe_ix ix_list (pv 0) pe_int (fun _ _ => rfl)) pe_int (nomark _)) (pss_cons (ps_set (i := 3) sc__law_draw.nd rfl (Or.inl rfl) (pe_op op_mod (pe_callTy call_int1 rfl z_int boot_int (pa_cons (pe_ix ix_list (pv 0) pe_int (fun _ _ => rfl)) pa_nil)) (pv 1))) (pss_cons (ps_asg (pe_op op_fdiv (pe_ix ix_list (pv 0) pe_int (fun _ _ => rfl)) (pv 1)) (pg_sub (pv 0) pe_int set_list)) (pss_one (ps_ret (pv 3))))) pss_nil) (pss_cons (ps_set (i := 4) sc__law_draw.nd rfl (Or.inl rfl) (pe_op op_mod (pe_callTy call_int1 rfl z_int boot_int (pa_cons (pe_op op_pow (pe_op op_add (pe_op op_add (pe_ix ix_list (pv 0) pe_int (fun _ _ => rfl)) (pe_op op_mul pe_int (pe_ix ix_list (pv 0) pe_int (fun _ _ => rfl)))) pe_int) pe_int) pa_nil)) pe_int)) (pss_one (ps_ret (pe_op op_mod (pe_op op_mod (pe_callTy call_int1 rfl z_int boot_int (pa_cons (pe_op op_pow (pe_op op_add (pe_op op_add (pe_op op_mul (pv 4) pe_int) (pe_op op_mul pe_int (pe_ix ix_list (pv 0) pe_int (fun _ _ => rfl)))) pe_int) pe_int) pa_nil)) pe_int) (pv 1)))))))), ?_⟩
    obtain ⟨cells, cur, mix, cnt, hs, hcn⟩ := hst
    have hne := hs.ne
    refine q_seq (fun σ' H' => σ' = [some (.ref s), some (.int m), none, none, none] ∧ Kept (two s c) H H' ∧ StrAt s c H' cells cur mix (cnt + 1)) (fun Z z => ?_) (fun σ2 H2 hp2 => ?_)
    · walk_at "rd"
      exact ⟨_, rfl, s, _, 2, _, rfl, rfl, .inl (.inl hs.hs), atI_nat (j := 2) rfl, _, _, rfl, rfl, _, rfl, s, _, 2, 2, rfl, rfl, hs.hs, rfl, z _ _ ⟨rfl, (Kept.refl _).upd (.inl rfl), ⟨upd_same, by rw [upd_ne hne]; exact hs.hc, hs.h0, hs.m0, hs.m1⟩⟩⟩
    obtain ⟨rfl, k2, hs2⟩ := hp2
    refine q_seq (fun σ' H' => ∃ u cells' cur' mix', σ' = [some (.ref s), some (.int m), u, none, none] ∧ Kept (two s c) H H' ∧ StrAt s c H' cells' cur' mix' (cnt + 1)) (fun Z z => ?_) (fun σ3 H3 hp3 => ?_)
    · refine whq (α := List Int × Int × Int) (fun a σ' H' => ∃ u, σ' = [some (.ref s), some (.int m), u, none, none] ∧ Kept (two s c) H H' ∧ StrAt s c H' a.1 a.2.1 a.2.2 (cnt + 1)) (fun a => a.1.length) (fun a => decide (a.2.1 = 0) && !a.1.isEmpty) (cells, cur, mix) ⟨_, rfl, k2, hs2⟩ (fun a σ' H' q => ?_) (fun a σ' H' H1 q hb e => ?_) (fun a σ' H' H1 q hb e => ?_)
      · obtain ⟨cells', cur', mix'⟩ := a
        obtain ⟨u, rfl, q1, q2⟩ := q
        intro Q1 q3
        walk_at "rd"
        refine ⟨_, rfl, s, _, 1, _, rfl, rfl, .inl (.inl q2.hs), atI_nat (j := 1) rfl, rfl, _, rfl, ?_⟩
        have ec : decide (V.int cur' = V.int 0) = decide (cur' = 0) := by
          by_cases q : cur' = 0
          · simp [q]
          · simp [q]
        dsimp only at q3 ⊢
        rw [ec]
        refine ite_b (fun hb => ?_) (fun hb => ?_)
        · refine ⟨_, rfl, s, _, 0, _, rfl, rfl, .inl (.inl q2.hs), atI_nat (j := 0) rfl, by decide, fun p hp => ?_⟩
          have e1 := same_new hp (.lst [])
          refine ⟨_, _, .lst (.inl (.inl (e1 _ _ q2.hc))) (DpAll.of_ints K _ cells'), .lst (.inl (.inl upd_same)) .nil, ints_shaped cells', ints_shaped [], _, rfl, ?_⟩
          have := q3 _ e1
          rw [hb, Bool.true_and] at this
          cases cells' with
          | nil => simpa [PyData.eqv, PyData.eqvAll] using this
          | cons x r => simpa [PyData.eqv, PyData.eqvAll] using this
        · have := q3 _ (Same.refl _)
          rw [hb, Bool.false_and] at this
          exact this
      · obtain ⟨cells', cur', mix'⟩ := a
        obtain ⟨u, rfl, q1, q2⟩ := q
        have q4 := q2.same e
        dsimp only at hb q4
        have k4 := q1.trans (Kept.of e)
        cases cells' with
        | nil => simp at hb
        | cons c0 r =>
        refine q_seq (fun σ' H' => σ' = [some (.ref s), some (.int m), some (.int c0), none, none] ∧ Kept (two s c) H H' ∧ StrAt s c H' r cur' mix' (cnt + 1)) (fun Z1 z1 => ?_) (fun σ5 H5 hp5 => ?_)
        · walk_at "rd"
          refine ⟨_, rfl, s, _, 0, _, rfl, rfl, .inl (.inl q4.hs), atI_nat (j := 0) rfl, .inl ⟨rfl, _, .inl (.inl q4.hc)⟩, ?_⟩
          exact ⟨c, _, 0, 0, _, rfl, rfl, q4.hc, by decide, by decide, pop0 _, rfl, z1 _ _ ⟨rfl, k4.upd (.inr rfl), ⟨by rw [upd_ne (Ne.symm hne)]; exact q4.hs, by rw [upd_same]; rfl, q4.h0, q4.m0, q4.m1⟩⟩⟩
        obtain ⟨rfl, k5, q5⟩ := hp5
        refine q_seq (fun σ' H' => ∃ mx, σ' = [some (.ref s), some (.int m), some (.int c0), none, none] ∧ Kept (two s c) H H' ∧ StrAt s c H' r cur' mx (cnt + 1)) (fun Z1 z1 => ?_) (fun σ6 H6 hp6 => ?_)
        · walk_at "rd"
          refine ⟨_, rfl, s, _, 3, _, rfl, rfl, .inl (.inl q5.hs), atI_nat (j := 3) rfl, _, _, rfl, rfl, .inr ⟨by decide, by decide⟩, ?_⟩
          refine ⟨_, rfl, _, _, rfl, rfl, _, _, rfl, rfl, .inl ⟨_, rfl, _, _, rfl, rfl, pos_lit (by decide), ?_⟩⟩
          refine ⟨_, rfl, s, _, 3, 3, rfl, rfl, q5.hs, rfl, z1 _ _ ⟨_, rfl, k5.upd (.inl rfl), ⟨upd_same, by rw [upd_ne hne]; exact q5.hc, q5.h0, Int.emod_nonneg _ (by decide), Int.emod_lt_of_pos _ (by decide)⟩⟩⟩
        obtain ⟨mx, rfl, k6, q6⟩ := hp6
        walk_at "rd"
        refine ⟨_, rfl, _, _, rfl, rfl, ⟨by decide, by decide, by decide⟩, _, _, rfl, rfl, _, rfl, ?_⟩
        refine ite_b (fun hc => ?_) (fun hc => ?_)
        · refine ⟨_, rfl, _, rfl, s, _, 1, 1, rfl, rfl, q6.hs, rfl, ?_⟩
          refine ⟨(r, c0, mx), Nat.lt_succ_self _, _, rfl, k6.upd (.inl rfl), ⟨upd_same, by rw [upd_ne hne]; exact q6.hc, ?_, q6.m0, q6.m1⟩⟩
          have := of_decide_eq_true hc
          have h10 : (0 : Int) ≤ 10 ^ (18 : Int).toNat := by decide +kernel
          exact Int.le_trans h10 this
        · refine ⟨_, rfl, s, _, 1, 1, rfl, rfl, q6.hs, rfl, ?_⟩
          exact ⟨(r, 0, mx), Nat.lt_succ_self _, _, rfl, k6.upd (.inl rfl), ⟨upd_same, by rw [upd_ne hne]; exact q6.hc, Int.le_refl _, q6.m0, q6.m1⟩⟩
      · obtain ⟨u, rfl, q1, q2⟩ := q
        exact z _ _ ⟨u, _, _, _, rfl, q1.trans (Kept.of e), q2.same e⟩
    obtain ⟨u, cells3, cur3, mix3, rfl, k3, hs3⟩ := hp3
    refine q_when (decide (0 < cur3)) (fun Q1 q1 => ?_) (fun hb H4 e4 => ?_) (fun hb H4 e4 => ?_)
    · walk_at "rd"
      exact ⟨_, rfl, s, _, 1, _, rfl, rfl, .inl (.inl hs3.hs), atI_nat (j := 1) rfl, _, _, rfl, rfl, _, rfl, q1 _ (Same.refl _)⟩
    · have q4 := hs3.same e4
      have k4 := k3.trans (Kept.of e4)
      walk_at "rd"
      refine ⟨_, rfl, s, _, 1, _, rfl, rfl, .inl (.inl q4.hs), atI_nat (j := 1) rfl, .inl ⟨_, rfl, _, rfl, _, _, rfl, rfl, hm0, ?_⟩⟩
      refine ⟨_, rfl, s, _, 1, _, rfl, rfl, .inl (.inl q4.hs), atI_nat (j := 1) rfl, _, rfl, _, _, rfl, rfl, ⟨hm0, hm1⟩, ?_⟩
      refine ⟨_, rfl, s, _, 1, 1, rfl, rfl, q4.hs, rfl, _, rfl, ?_⟩
      refine k _ _ (Int.emod_nonneg _ (by omega)) (Int.emod_lt_of_pos _ hm0) (k4.upd (.inl rfl)) ⟨cells3, _, mix3, cnt + 1, ⟨upd_same, by rw [upd_ne hne]; exact q4.hc, Int.ediv_nonneg q4.h0 (by omega), q4.m0, q4.m1⟩, by omega⟩
    · have q4 := hs3.same e4
      have k4 := k3.trans (Kept.of e4)
      have b1 := q4.m0
      have b2 := q4.m1
      walk_at "rd"
      refine ⟨_, rfl, s, _, 3, _, rfl, rfl, .inl (.inl q4.hs), atI_nat (j := 3) rfl, ?_⟩
      refine ⟨_, rfl, s, _, 2, _, rfl, rfl, .inl (.inl q4.hs), atI_nat (j := 2) rfl, _, _, rfl, rfl, .inl ⟨by decide, by decide⟩, ?_⟩
      refine ⟨_, _, rfl, rfl, _, _, rfl, rfl, _, _, rfl, rfl, ⟨by decide, by decide, ?_⟩, ?_⟩
      · omega
      refine .inl ⟨_, rfl, _, _, rfl, rfl, pos_lit (by decide), ?_⟩
      generalize hmx : ((mix3 + 7919 * ((cnt + 1 : Nat) : Int) + 104729) ^ (5 : Int).toNat) % 2147483629 = mx
      have m0 : 0 ≤ mx := by rw [← hmx]; exact Int.emod_nonneg _ (by decide)
      have m1 : mx < 2147483629 := by rw [← hmx]; exact Int.emod_lt_of_pos _ (by decide)
      refine ⟨_, rfl, _, _, rfl, rfl, .inr ⟨by decide, by decide⟩, ?_⟩
      refine ⟨_, rfl, s, _, 2, _, rfl, rfl, .inl (.inl q4.hs), atI_nat (j := 2) rfl, _, _, rfl, rfl, .inl ⟨by decide, by decide⟩, ?_⟩
      refine ⟨_, _, rfl, rfl, _, _, rfl, rfl, _, _, rfl, rfl, ⟨by decide, by decide, ?_⟩, ?_⟩
      · omega
      refine .inl ⟨_, rfl, _, _, rfl, rfl, pos_lit (by decide), ?_⟩
      refine ⟨_, rfl, _, _, rfl, rfl, hm0, ?_⟩
      exact k _ _ (Int.emod_nonneg _ (by omega)) (Int.emod_lt_of_pos _ hm0) k4 ⟨cells3, _, mix3, cnt + 1, q4, by omega⟩
abbrev st__law_pick : Stmt := top 35
theorem sc__law_pick : FnScope ["stream", "some"] ["stream", "some"] (defScope st__law_pick) := ⟨rfl, rfl, rfl, by decide +kernel, rfl, by decide +kernel, by decide +kernel⟩

/-- a list of data, the stream apart -/
def spPick (K : PySem.W.Frag) : Sp := fun vs H Q _ => ∃ (s c l : Addr) (xs : List V) (n : Nat), vs = [.ref s, .ref l] ∧ Stm s c H n ∧ n < 1000000 ∧ ¬ two s c l ∧ H l = some (.lst xs) ∧ 0 < xs.length ∧ xs.length < 1000000 ∧ ∀ (r : Nat) x H', xs[r]? = some x → Kept (two s c) H H' → Stm s c H' (n + 1) → Q x H'
theorem ok_pick (G : Glob K mg) (D : Def K mg "_law_pick" st__law_pick ["stream", "some"]) (c__law_draw : Callee P w K mg base 1 "_law_draw" ["stream", "many"] spDraw) : Callee P w K mg base 2 "_law_pick" ["stream", "some"] (spPick K) := by
  obtain ⟨f, fd, F, b, m⟩ := D.ex
  have z_len := G.len
  refine ⟨f, fd, F.ok sc__law_pick (fun vs H Q E h => ?_) (fun cdv A outer s H vs Q E hr h => ?_), b, F.kp, m⟩
  · obtain ⟨s, c, l, xs, n, rfl, _⟩ := h
    rfl
  · obtain ⟨s, c, l, xs, n, rfl, hst, hn, hl, hxs, h0, h1, k⟩ := h
    have hr__law_draw := hr
    refine ⟨_, (pss_one (ps_ret (pe_ix ix_list (pv 1) (pe_own c__law_draw hr__law_draw rfl (pa_cons (pv 0) (pa_cons (pe_callB call_len_seq rfl z_len PySem.boot_len (pa_cons (pv 1) pa_nil)) pa_nil))) (fun _ _ => rfl)))), ?_⟩
    walk_at "rd"
    refine ⟨_, rfl, _, rfl, _, rfl, l, xs, rfl, .inl (.inl (.inl hxs)), ?_⟩
    refine ⟨s, c, _, n, rfl, hst, hn, by omega, by omega, fun r H' r0 r1 kp st => ?_⟩
    have hr1 : r.toNat < xs.length := by omega
    refine ⟨l, xs, r, xs[r.toNat], rfl, rfl, .inl (.inl (kp.at hl hxs)), ?_, ?_⟩
    · have e : ((r.toNat : Nat) : Int) = r := by omega
      have := atI_nat (xs := xs) (j := r.toNat) (List.getElem?_eq_getElem hr1)
      rw [e] at this
      exact this
    · exact k r.toNat _ H' (List.getElem?_eq_getElem hr1) kp st
abbrev st__law_mixed : Stmt := top 36
theorem sc__law_mixed : FnScope ["stream", "some", "left", "k"] ["stream", "some"] (defScope st__law_mixed) := ⟨rfl, rfl, rfl, by decide +kernel, rfl, by decide +kernel, by decide +kernel⟩

def spMixed (K : PySem.W.Frag) : Sp := fun vs H Q _ => ∃ (s c l : Addr) (xs : List V) (n : Nat), vs = [.ref s, .ref l] ∧ Stm s c H n ∧ n + xs.length < 1000000 ∧ ¬ two s c l ∧ SqL K H l xs ∧ xs.length ≤ 100000 ∧ ∀ D ys H', ys.Perm xs → H D = none → Kept (two s c) H H' → Stm s c H' (n + xs.length) → H' D = some (.lst ys) → Q (.ref D) H'
theorem ok_mixed (G : Glob K mg) (D : Def K mg "_law_mixed" st__law_mixed ["stream", "some"]) (c__law_draw : Callee P w K mg base 1 "_law_draw" ["stream", "many"] spDraw) : Callee P w K mg base 2 "_law_mixed" ["stream", "some"] (spMixed K) := by
  obtain ⟨f, fd, F, b, m⟩ := D.ex
  have z_len := G.len
  have z_list := G.list
  have z_range := G.range
  refine ⟨f, fd, F.ok sc__law_mixed (fun vs H Q E h => ?_) (fun cdv A outer s H vs Q E hr h => ?_), b, F.kp, m⟩
  · obtain ⟨s, c, l, xs, n, rfl, _⟩ := h
    rfl
  · obtain ⟨s, c, l, xs, n, rfl, hst, hn, hl, hxs, h1, k⟩ := h
    have hr__law_draw := hr
    refine ⟨_, (pss_cons (ps_set (i := 2) sc__law_mixed.nd rfl (Or.inr rfl) (pe_callTy call_list_of rfl z_list boot_list (pa_cons (pv 1) pa_nil))) (pss_one (ps_ret (pe_lc (own := [("k", 3)]) (g := (gName 3)) (tt := tYes) rfl sc__law_mixed.nd (pi_range1 rfl z_range (pa_cons (pe_callB call_len_seq rfl z_len PySem.boot_len (pa_cons (pv 2) pa_nil)) pa_nil)) (blkOk_by (N := ["stream", "some", "left", "k"]) (sc := defScope st__law_mixed) (by decide +kernel)) (fun _ _ _ _ _ => (pg_name (i := 3) sc__law_mixed.nd rfl (Or.inl rfl))) (fun _ _ _ _ _ => pts_nil) (fun _ _ _ _ _ => (pe_bmK (K := K) rfl PySem.F.plainAttrs_list PySem.F.slot_list_pop PySem.F.type_list_pop mt_popAt (pv 2) (pa_cons (pe_own c__law_draw hr__law_draw rfl (pa_cons (pv 0) (pa_cons (pe_callB (show CallR _ _ (rLenQ K) from call_len_seq) rfl z_len PySem.boot_len (pa_cons (pv 2) pa_nil)) pa_nil))) pa_nil))))))), ?_⟩
    walk_at "rd"
    refine ⟨_, rfl, l, xs, rfl, .inl hxs, fun L hL => ?_⟩
    refine rd_lc ?_
    walk_at "rd"
    have sL := same_new hL (.lst xs)
    have hst1 := hst.same sL
    have nL : ¬ two s c L := hst.tr.off hL
    refine ⟨_, rfl, L, xs, rfl, .inl (.inl (.inl upd_same)), _, rfl, by omega, by omega, ?_⟩
    rw [show ((xs.length : Nat) : Int).toNat = xs.length from Int.toNat_natCast _]
    refine lcq (St := fun _ => True) (sp_range (lo := 0)) (by omega) (fun D i ys H' => ∃ zs, (zs ++ ys).Perm xs ∧ ys.length = i ∧ Kept (two s c) H H' ∧ Stm s c H' (n + i) ∧ D ≠ L ∧ ¬ two s c D ∧ H D = none ∧ H' L = some (.lst zs)) (fun D hD => ?_) (fun _ _ _ _ _ => trivial) (fun D i x ys H' H'' Q2 Q3 hi hD q hy hl e r q2 q3 => ?_) (fun D H' ys hD q hy => ?_)
    · have hDL : D ≠ L := fun q => by subst q; rw [upd_same] at hD; cases hD
      have e1 := sL.trans (same_new hD (.lst []))
      exact ⟨xs, by rw [List.append_nil], rfl, Kept.of e1, hst.same e1, hDL, (hst1.tr).off hD, none_of_none sL hD, by rw [upd_ne (Ne.symm hDL), upd_same]⟩
    · obtain ⟨zs, pz, li, kp, st, n1, n2, hD0, hz⟩ := q
      obtain ⟨rfl, rfl⟩ := r
      have lz : zs.length + ys.length = xs.length := by rw [← pz.length_eq, List.length_append]
      walk_at "rd"
      refine ⟨rfl, iteT ?_⟩
      refine ⟨_, rfl, .inl ⟨rfl, _, .inl (.inl hz)⟩, _, rfl, _, rfl, L, zs, rfl, .inl (.inl (.inl hz)), ?_⟩
      refine ⟨s, c, _, n + i, rfl, st, by omega, by omega, by omega, fun r H4 r0 r1 kp4 st4 => ?_⟩
      have hr1 : r.toNat < zs.length := by omega
      have hz4 := kp4.at nL hz
      refine ⟨L, zs, r, r.toNat, zs[r.toNat], rfl, rfl, hz4, by omega, by omega, ?_, List.getElem?_eq_getElem hr1, ?_⟩
      · have := seqIx r0 r1
        exact this
      · have hy4 : upd H4 L (.lst (zs.eraseIdx r.toNat)) D = some (.lst ys) := by rw [upd_ne n1]; exact kp4.at n2 hy
        refine q2 _ _ hy4 ⟨zs.eraseIdx r.toNat, ?_, by rw [List.length_append, li]; rfl, ?_, ?_, n1, n2, hD0, ?_⟩
        · have p1 : (zs[r.toNat] :: zs.eraseIdx r.toNat).Perm zs := erase_perm hr1
          have p2 : (zs.eraseIdx r.toNat ++ (ys ++ [zs[r.toNat]])).Perm (zs ++ ys) := by
            refine (List.perm_append_comm.trans ?_ : (zs.eraseIdx r.toNat ++ (ys ++ [zs[r.toNat]])).Perm _)
            rw [List.append_assoc]
            refine ((List.Perm.append_left ys ?_).trans List.perm_append_comm : (ys ++ ([zs[r.toNat]] ++ zs.eraseIdx r.toNat)).Perm _)
            exact p1
          exact p2.trans pz
        · intro a o q
          have e0 := kp a o q
          have e1 := kp4 a o e0
          obtain ⟨m1, m2⟩ := hide_some e1
          rw [hide_off m1]
          have a1 : a ≠ L := fun z => by subst z; rw [(hide_some q).2] at hL; cases hL
          have a2 : a ≠ D := fun z => by subst z; rw [(hide_some q).2] at hD0; cases hD0
          rw [upd_ne a2, upd_ne a1]
          exact m2
        · obtain ⟨q1', q2', q3', q4', h1', h2'⟩ := st4
          refine ⟨q1', q2', q3', q4', ⟨?_, ?_, h1'.h0, h1'.m0, h1'.m1⟩, by omega⟩
          · rw [upd_ne (fun z => n2 (.inl z.symm)), upd_ne (fun z => nL (.inl z.symm))]
            exact h1'.hs
          · rw [upd_ne (fun z => n2 (.inr z.symm)), upd_ne (fun z => nL (.inr z.symm))]
            exact h1'.hc
        · rw [upd_ne (Ne.symm n1), upd_same]
    · obtain ⟨zs, pz, li, kp, st, n1, n2, hD0, hz⟩ := q
      have : zs = [] := by
        have := pz.length_eq
        rw [List.length_append] at this
        exact List.eq_nil_of_length_eq_zero (by omega)
      subst this
      exact k D ys H' pz hD0 kp st hy
end
end K29

-- text: Law4
set_option linter.all false
set_option maxRecDepth 100000
set_option maxHeartbeats 4000000
namespace K29
open PySem PySem.Spec PyProof.Rows L2 DB
local macro_rules | `(tactic| walk_at "rd") => `(tactic| (dsimp only [cxOf, Cx.nox, L2.start, tRet, tRetN, tCB, tCons, tNil, tC, tVar, tTup, tLst, tB, tTest, tAnd, tOr, tNot, tAndV, tOrV, tNotV, tIfS, tIf, tSeq, tNext, tDrop, tOp, tUn, tAsg, gName, gSub, tSl, tPart, tNoPart, tCall, tPar, tBM, tChain, tYes, StX.tStar, tFld, tNotN, tIsN, tDNotIn, tDIn, tDGet, tDGet2, tDNewK, List.length_cons, List.length_nil, List.set_cons_zero, List.set_cons_succ, List.nil_append, List.cons_append, List.append_nil, gTup, gCons, gNil, tLockE, iKeys, XR.iZipTN, sFld, sDPut, iEnum, XR.iEnumK, XR.iEnumT, iList, RZ.iZipA, iTup, iRng1, iRng2]))
section
variable {P : Program} {w : World} {K : PySem.W.Frag} {mg : Str → Option Value} {base : Heap}
abbrev st__law_start : Stmt := top 33
theorem sc__law_start : FnScope ["script"] ["script"] (defScope st__law_start) := ⟨rfl, rfl, rfl, by decide +kernel, rfl, by decide +kernel, by decide +kernel⟩

def spStart (K : PySem.W.Frag) : Sp := fun vs H Q _ => ∃ (l : Addr) (ns : List Int), vs = [.ref l] ∧ SqL K H l (ns.map V.int) ∧ ∀ s c H', Same H H' → H s = none → H c = none → Stm s c H' 0 → Q (.ref s) H'
theorem ok_start (G : Glob K mg) (D : Def K mg "_law_start" st__law_start ["script"]) : Callee P w K mg base 1 "_law_start" ["script"] (spStart K) := by
  obtain ⟨f, fd, F, b, m⟩ := D.ex
  have z_list := G.list
  refine ⟨f, fd, F.ok sc__law_start (fun vs H Q E h => ?_) (fun cdv A outer s H vs Q E hr h => ?_), b, F.kp, m⟩
  · obtain ⟨l, ns, rfl, _⟩ := h
    rfl
  · obtain ⟨l, ns, rfl, hl, k⟩ := h
    refine ⟨_, (pss_one (ps_ret (pe_lst (pa_cons (pe_callTy call_list_of rfl z_list boot_list (pa_cons (pv 0) pa_nil)) (pa_cons pe_int (pa_cons pe_int (pa_cons pe_int pa_nil))))))), ?_⟩
    walk_at "rd"
    refine ⟨_, rfl, l, _, rfl, .inl hl, fun c hc => ⟨by decide, fun s hs => ?_⟩⟩
    have e1 := same_new hc (.lst (ns.map V.int))
    exact k s c _ (e1.trans (same_new hs _)) (none_of_none e1 hs) hc ⟨ns, 0, 11, 0, ⟨upd_same, same_new hs _ _ _ upd_same, by decide, by decide, by decide⟩, Nat.le_refl _⟩
abbrev st__law_same : Stmt := top 37
theorem sc__law_same : FnScope ["found", "due", "x", "y"] ["found", "due"] (defScope st__law_same) := ⟨rfl, rfl, rfl, by decide +kernel, rfl, by decide +kernel, by decide +kernel⟩

theorem tnb (x : Str) : (!(tn (PyData.str x) == "int" || tn (PyData.str x) == "bool" || tn (PyData.str x) == "list" || tn (PyData.str x) == "tuple" || tn (PyData.str x) == "dict")) = true := by
  show (!("str" == "int" || "str" == "bool" || "str" == "list" || "str" == "tuple" || "str" == "dict")) = true
  decide +kernel
def spSame0 : Sp := fun vs H Q _ => ∃ (x y : Str), vs = [.str x, .str y] ∧ ∀ H', Same H H' → Q (.bl (decide (x = y))) H'
theorem ok_same0 (G : Glob K mg) (D : Def K mg "_law_same" st__law_same ["found", "due"]) : Callee P w K mg base 1 "_law_same" ["found", "due"] spSame0 := by
  obtain ⟨f, fd, F, b, m⟩ := D.ex
  have z_isinstance := G.isinstance
  have z_list := G.list
  have z_tuple := G.tuple
  have z_dict := G.dict
  have z_int := G.int
  have z_bool := G.bool
  have z_len := G.len
  have z_all := G.all
  have z_zip := G.zip

  refine ⟨f, fd, F.ok sc__law_same (fun vs H Q E h => ?_) (fun cdv A outer s H vs Q E hr h => ?_), b, F.kp, m⟩
  · obtain ⟨x, y, rfl, _⟩ := h
    rfl
  · obtain ⟨x, y, rfl, k⟩ := h
    refine ⟨_, (pss_cons (ps_if (pt_val (pe_callB call_isiT rfl z_isinstance boot_isinstance (pa_cons (pv 1) (pa_cons (pe_tup (pa_cons (pe_bltn (v := .ty "list") rfl z_list boot_list rfl) (pa_cons (pe_bltn (v := .ty "tuple") rfl z_tuple boot_tuple rfl) pa_nil))) pa_nil)))) (pss_cons (ps_if (PW.pt (pw_or (pt_cmpR op_ne (pe_callB call_isi rfl z_isinstance boot_isinstance (pa_cons (pv 0) (pa_cons (pe_bltn (v := .ty "list") rfl z_list boot_list rfl) pa_nil))) (pe_callB call_isi rfl z_isinstance boot_isinstance (pa_cons (pv 1) (pa_cons (pe_bltn (v := .ty "list") rfl z_list boot_list rfl) pa_nil))) (nomark _)) (pw_or1 (pt_cmpR op_ne (pe_callB call_isi rfl z_isinstance boot_isinstance (pa_cons (pv 0) (pa_cons (pe_bltn (v := .ty "tuple") rfl z_tuple boot_tuple rfl) pa_nil))) (pe_callB call_isi rfl z_isinstance boot_isinstance (pa_cons (pv 1) (pa_cons (pe_bltn (v := .ty "tuple") rfl z_tuple boot_tuple rfl) pa_nil))) (nomark _))))) (pss_one (ps_ret pe_bl)) pss_nil) (pss_one (ps_ret (pe_and (pe_cmpR op_eq (pe_callB call_len_seq rfl z_len PySem.boot_len (pa_cons (pv 0) pa_nil)) (pe_callB call_len_seq rfl z_len PySem.boot_len (pa_cons (pv 1) pa_nil)) (nomark _)) (pe_one (pe_callB (cr_all rfl) rfl z_all boot_all (pa_cons (pe_lc (own := [("x", 2), ("y", 3)]) (g := (gTup K 2 (gCons (gName 2) (gCons (gName 3) gNil)))) (tt := tYes) rfl sc__law_same.nd (RZ.pi_zipA rfl z_zip (pa_cons (pv 0) (pa_cons (pv 1) pa_nil))) (blkOk_by (N := ["found", "due", "x", "y"]) (sc := defScope st__law_same) (by decide +kernel)) (fun _ _ _ _ _ => (pg_tup rfl (pgs_cons (pg_name (i := 2) sc__law_same.nd rfl (Or.inl rfl)) (pgs_cons (pg_name (i := 3) sc__law_same.nd rfl (Or.inl rfl)) pgs_nil)))) (fun _ _ _ _ _ => pts_nil) (fun _ _ _ _ _ => pe_never)) pa_nil))))))) pss_nil) (pss_cons (ps_if (pt_val (pe_callB call_isi rfl z_isinstance boot_isinstance (pa_cons (pv 1) (pa_cons (pe_bltn (v := .ty "dict") rfl z_dict boot_dict rfl) pa_nil)))) (pss_one (ps_ret pe_never)) pss_nil) (pss_cons (ps_if (pt_val (pe_callB call_isi rfl z_isinstance boot_isinstance (pa_cons (pv 1) (pa_cons (pe_bltn (v := .ty "int") rfl z_int boot_int rfl) pa_nil)))) (pss_one (ps_ret (pe_and (pe_callB call_isi rfl z_isinstance boot_isinstance (pa_cons (pv 0) (pa_cons (pe_bltn (v := .ty "int") rfl z_int boot_int rfl) pa_nil))) (pe_and (pe_cmpR op_eq (pe_callB call_isi rfl z_isinstance boot_isinstance (pa_cons (pv 0) (pa_cons (pe_bltn (v := .ty "bool") rfl z_bool boot_bool rfl) pa_nil))) (pe_callB call_isi rfl z_isinstance boot_isinstance (pa_cons (pv 1) (pa_cons (pe_bltn (v := .ty "bool") rfl z_bool boot_bool rfl) pa_nil))) (nomark _)) (pe_one (pe_cmpR op_eq (pv 0) (pv 1) (nomark _))))))) pss_nil) (pss_one (ps_ret (pe_and (pe_not (pe_callB call_isiT rfl z_isinstance boot_isinstance (pa_cons (pv 0) (pa_cons (pe_tup (pa_cons (pe_bltn (v := .ty "int") rfl z_int boot_int rfl) (pa_cons (pe_bltn (v := .ty "list") rfl z_list boot_list rfl) (pa_cons (pe_bltn (v := .ty "tuple") rfl z_tuple boot_tuple rfl) (pa_cons (pe_bltn (v := .ty "dict") rfl z_dict boot_dict rfl) pa_nil))))) pa_nil)))) (pe_one (pe_cmpR op_eq (pv 0) (pv 1) (nomark _))))))))), ?_⟩
    refine q_when false (fun Q1 q1 => ?_) (fun hb => nomatch hb) (fun _ H1 e1 => ?_)
    · walk_at "rd"
      exact ⟨_, rfl, by decide, fun p hp => isiT (cs := ["list", "tuple"]) (.str y) upd_same (kb_lt (.str y)) ⟨_, rfl, q1 _ (same_new hp _)⟩⟩
    refine q_when false (fun Q1 q1 => ?_) (fun hb => nomatch hb) (fun _ H2 e2 => ?_)
    · walk_at "rd"
      exact ⟨_, rfl, isi1 (.str y) (kb_dict (.str y)) ⟨_, rfl, q1 _ (Same.refl _)⟩⟩
    refine q_when false (fun Q1 q1 => ?_) (fun hb => nomatch hb) (fun _ H3 e3 => ?_)
    · walk_at "rd"
      exact ⟨_, rfl, isi1 (.str y) (kb_int (.str y)) ⟨_, rfl, q1 _ (Same.refl _)⟩⟩
    walk_at "rd"
    refine ⟨_, rfl, by decide, fun p hp => isiT (cs := ["int", "list", "tuple", "dict"]) (.str x) upd_same (kb_iltd (.str x)) ⟨_, rfl, _, rfl, ?_⟩⟩
    rw [if_pos (tnb x)]
    refine ⟨_, rfl, _, rfl, rfl, ?_⟩
    have := k _ (((e1.trans e2).trans e3).trans (same_new hp (.tup [.ty "int", .ty "list", .ty "tuple", .ty "dict"])))
    rw [show decide (V.str x = V.str y) = decide (x = y) by simp]
    exact this
theorem all_same {xs ys : List Str} (h : xs.length = ys.length) : ((List.range xs.length).map fun i => decide (xs[i]? = ys[i]?)).all id = decide (xs = ys) := by
  rw [Bool.eq_iff_iff, List.all_eq_true, decide_eq_true_iff]
  constructor
  · intro q
    apply List.ext_getElem?
    intro i
    by_cases hi : i < xs.length
    · have := q (decide (xs[i]? = ys[i]?)) (List.mem_map.mpr ⟨i, List.mem_range.mpr hi, rfl⟩)
      exact of_decide_eq_true this
    · rw [List.getElem?_eq_none (by omega), List.getElem?_eq_none (by omega)]
  · rintro rfl b hb
    obtain ⟨i, _, rfl⟩ := List.mem_map.mp hb
    exact decide_eq_true rfl
def spSame1 (K : PySem.W.Frag) : Sp := fun vs H Q _ => ∃ (a b : Addr) (xs ys : List Str), vs = [.ref a, .ref b] ∧ SqL K H a (xs.map V.str) ∧ SqL K H b (ys.map V.str) ∧ xs.length ≤ 1000 ∧ ∀ H', Same H H' → Q (.bl (decide (xs = ys))) H'
theorem ok_same1 (G : Glob K mg) (D : Def K mg "_law_same" st__law_same ["found", "due"]) (c__law_same : Callee P w K mg base 1 "_law_same" ["found", "due"] spSame0) : Callee P w K mg base 2 "_law_same" ["found", "due"] (spSame1 K) := by
  obtain ⟨f, fd, F, b, m⟩ := D.ex
  have z_isinstance := G.isinstance
  have z_list := G.list
  have z_tuple := G.tuple
  have z_dict := G.dict
  have z_int := G.int
  have z_bool := G.bool
  have z_len := G.len
  have z_all := G.all
  have z_zip := G.zip

  refine ⟨f, fd, F.ok sc__law_same (fun vs H Q E h => ?_) (fun cdv A outer s H vs Q E hr h => ?_), b, F.kp, m⟩
  · obtain ⟨a, b, x, y, rfl, _⟩ := h
    rfl
  · obtain ⟨la, lb, xs, ys, rfl, ha, hb, hl, k⟩ := h
    have hr__law_same := hr
    refine ⟨_, (pss_cons (ps_if (pt_val (pe_callB call_isiT rfl z_isinstance boot_isinstance (pa_cons (pv 1) (pa_cons (pe_tup (pa_cons (pe_bltn (v := .ty "list") rfl z_list boot_list rfl) (pa_cons (pe_bltn (v := .ty "tuple") rfl z_tuple boot_tuple rfl) pa_nil))) pa_nil)))) (pss_cons (ps_if (PW.pt (pw_or (pt_cmpR op_ne (pe_callB call_isi rfl z_isinstance boot_isinstance (pa_cons (pv 0) (pa_cons (pe_bltn (v := .ty "list") rfl z_list boot_list rfl) pa_nil))) (pe_callB call_isi rfl z_isinstance boot_isinstance (pa_cons (pv 1) (pa_cons (pe_bltn (v := .ty "list") rfl z_list boot_list rfl) pa_nil))) (nomark _)) (pw_or1 (pt_cmpR op_ne (pe_callB call_isi rfl z_isinstance boot_isinstance (pa_cons (pv 0) (pa_cons (pe_bltn (v := .ty "tuple") rfl z_tuple boot_tuple rfl) pa_nil))) (pe_callB call_isi rfl z_isinstance boot_isinstance (pa_cons (pv 1) (pa_cons (pe_bltn (v := .ty "tuple") rfl z_tuple boot_tuple rfl) pa_nil))) (nomark _))))) (pss_one (ps_ret pe_bl)) pss_nil) (pss_one (ps_ret (pe_and (pe_cmpR op_eq (pe_callB call_len_seq rfl z_len PySem.boot_len (pa_cons (pv 0) pa_nil)) (pe_callB call_len_seq rfl z_len PySem.boot_len (pa_cons (pv 1) pa_nil)) (nomark _)) (pe_one (pe_callB (cr_all rfl) rfl z_all boot_all (pa_cons (pe_lc (own := [("x", 2), ("y", 3)]) (g := (gTup K 2 (gCons (gName 2) (gCons (gName 3) gNil)))) (tt := tYes) rfl sc__law_same.nd (RZ.pi_zipA rfl z_zip (pa_cons (pv 0) (pa_cons (pv 1) pa_nil))) (blkOk_by (N := ["found", "due", "x", "y"]) (sc := defScope st__law_same) (by decide +kernel)) (fun _ _ _ _ _ => (pg_tup rfl (pgs_cons (pg_name (i := 2) sc__law_same.nd rfl (Or.inl rfl)) (pgs_cons (pg_name (i := 3) sc__law_same.nd rfl (Or.inl rfl)) pgs_nil)))) (fun _ _ _ _ _ => pts_nil) (fun _ _ _ _ _ => (pe_own c__law_same hr__law_same rfl (pa_cons (pv 2) (pa_cons (pv 3) pa_nil))))) pa_nil))))))) pss_nil) (pss_cons (ps_if (pt_val (pe_callB call_isi rfl z_isinstance boot_isinstance (pa_cons (pv 1) (pa_cons (pe_bltn (v := .ty "dict") rfl z_dict boot_dict rfl) pa_nil)))) (pss_one (ps_ret pe_never)) pss_nil) (pss_cons (ps_if (pt_val (pe_callB call_isi rfl z_isinstance boot_isinstance (pa_cons (pv 1) (pa_cons (pe_bltn (v := .ty "int") rfl z_int boot_int rfl) pa_nil)))) (pss_one (ps_ret (pe_and (pe_callB call_isi rfl z_isinstance boot_isinstance (pa_cons (pv 0) (pa_cons (pe_bltn (v := .ty "int") rfl z_int boot_int rfl) pa_nil))) (pe_and (pe_cmpR op_eq (pe_callB call_isi rfl z_isinstance boot_isinstance (pa_cons (pv 0) (pa_cons (pe_bltn (v := .ty "bool") rfl z_bool boot_bool rfl) pa_nil))) (pe_callB call_isi rfl z_isinstance boot_isinstance (pa_cons (pv 1) (pa_cons (pe_bltn (v := .ty "bool") rfl z_bool boot_bool rfl) pa_nil))) (nomark _)) (pe_one (pe_cmpR op_eq (pv 0) (pv 1) (nomark _))))))) pss_nil) (pss_one (ps_ret (pe_and (pe_not (pe_callB call_isiT rfl z_isinstance boot_isinstance (pa_cons (pv 0) (pa_cons (pe_tup (pa_cons (pe_bltn (v := .ty "int") rfl z_int boot_int rfl) (pa_cons (pe_bltn (v := .ty "list") rfl z_list boot_list rfl) (pa_cons (pe_bltn (v := .ty "tuple") rfl z_tuple boot_tuple rfl) (pa_cons (pe_bltn (v := .ty "dict") rfl z_dict boot_dict rfl) pa_nil))))) pa_nil)))) (pe_one (pe_cmpR op_eq (pv 0) (pv 1) (nomark _))))))))), ?_⟩
    have da : ∀ H', Same H H' → Dp K H' (.ref la) (.list (xs.map PyData.str)) := fun H' e => .lst (e.seq ha) (DpAll.of_strs K H' xs)
    have db : ∀ H', Same H H' → Dp K H' (.ref lb) (.list (ys.map PyData.str)) := fun H' e => .lst (e.seq hb) (DpAll.of_strs K H' ys)
    refine q_when true (fun Q1 q1 => ?_) (fun _ H1 e1 => ?_) (fun hb => nomatch hb)
    · walk_at "rd"
      exact ⟨_, rfl, by decide, fun p hp => isiT (cs := ["list", "tuple"]) (db _ (same_new hp _)) upd_same (kb_lt _) ⟨_, rfl, q1 _ (same_new hp _)⟩⟩
    refine q_when false (fun Q1 q1 => ?_) (fun hb => nomatch hb) (fun _ H2 e2 => ?_)
    · walk_at "rd"
      refine ⟨_, rfl, isi1 (da _ e1) (kb_list _) ⟨_, rfl, isi1 (db _ e1) (kb_list _) ⟨rfl, _, rfl, ?_⟩⟩⟩
      rw [show decide (V.bl (tn (PyData.list (List.map PyData.str xs)) == "list") = V.bl (tn (PyData.list (List.map PyData.str ys)) == "list")) = true from decide_eq_true rfl]
      refine iteF ?_
      refine ⟨_, rfl, isi1 (da _ e1) (kb_tuple _) ⟨_, rfl, isi1 (db _ e1) (kb_tuple _) ⟨rfl, _, rfl, ?_⟩⟩⟩
      rw [show decide (V.bl (tn (PyData.list (List.map PyData.str xs)) == "tuple") = V.bl (tn (PyData.list (List.map PyData.str ys)) == "tuple")) = true from decide_eq_true rfl]
      exact q1 _ (Same.refl _)
    have s2 := e1.trans e2
    walk_at "rd"
    refine ⟨_, rfl, la, _, rfl, .inl (s2.seq ha), _, rfl, lb, _, rfl, .inl (s2.seq hb), rfl, _, rfl, ?_⟩
    refine ite_b (fun hc => ?_) (fun hc => ?_)
    · have hle : (xs.map V.str).length = (ys.map V.str).length := by
        have := of_decide_eq_true hc
        have := V.int.inj this
        omega
      have hle' : xs.length = ys.length := by rw [List.length_map, List.length_map] at hle; exact hle
      refine rd_lc ?_
      walk_at "rd"
      refine ⟨_, rfl, _, rfl, la, lb, _, _, rfl, .inl ⟨s2.seq ha, s2.seq hb, ?_⟩⟩
      refine lcp (K := K) (N := no0) (tr0 _) (src_zipL (s2.seq ha) (s2.seq hb) hle) (by rw [List.length_map]; omega) (fun _ => true) (fun i => PyData.bool (decide (xs[i]? = ys[i]?))) (fun i y H' N' Q2 Q3 hi e r tr hs' q2 q3 => ?_) (fun Dl H3 zs nD e3 hy dz => ?_)
      · obtain ⟨T, u, v, rfl, hT, r1, r2⟩ := r
        refine g_pair hT rfl ?_
        rw [List.getElem?_map] at r1 r2
        cases hx : xs[i]? with
        | none => rw [hx] at r1; cases r1
        | some x1 =>
        cases hy : ys[i]? with
        | none => rw [hy] at r2; cases r2
        | some y1 =>
        rw [hx] at r1
        rw [hy] at r2
        cases r1
        cases r2
        walk_at "rd"
        refine ⟨rfl, iteT ?_⟩
        refine ⟨_, rfl, _, rfl, x1, y1, rfl, fun H5 e5 => q2 _ _ e5 rfl ?_⟩
        rw [hx, hy, show decide (some x1 = some y1) = decide (x1 = y1) by simp]
        exact .bl _
      · have ef : ((List.range (xs.map V.str).length).filter (fun _ => true)) = List.range xs.length := by
          rw [List.filter_eq_self.mpr (fun _ _ => rfl), List.length_map]
        rw [ef, show (fun i => PyData.bool (decide (xs[i]? = ys[i]?))) = PyData.bool ∘ (fun i => decide (xs[i]? = ys[i]?)) from rfl, ← List.map_map] at dz
        have ez := DpAll.bls dz
        refine ⟨Dl, _, rfl, .inl (.inl (by rw [hy, ez])), ?_⟩
        have := k _ (s2.trans e3)
        rw [all_same hle'] 
        exact this
    · have hne : xs ≠ ys := fun q => by
        subst q
        have hla : (xs.map V.str).length = (xs.map V.str).length := rfl
        simp at hc
      have := k _ s2
      rw [decide_eq_false hne] at this
      exact this
end
end K29

-- text: LawM
set_option linter.all false
set_option maxRecDepth 100000
set_option maxHeartbeats 4000000
/-! the words of a weight: plain Lean -/
namespace K29
open PySem PySem.Spec
abbrev Tbl := Int → List W
def rowsT (T : Tbl) : Nat → Int → List (List W)
  | 0, left => if left = 0 then [[]] else []
  | m + 1, left => ((List.range (left - 1).toNat).flatMap fun (i : Nat) => (T (1 + (i : Int))).flatMap fun w => (rowsT T m (left - (1 + (i : Int)))).map fun r => w :: r) ++ (if m = 0 ∧ 0 < left then (T left).map fun w => [w] else [])
structure Ar where
  nm : Str
  many : Nat
  con : List W → W
def ars : List Ar := [⟨"a", 0, fun _ => .a⟩, ⟨"b", 0, fun _ => .b⟩, ⟨"f", 1, fun l => .f (l.headD .a)⟩, ⟨"g", 2, fun l => .g (l.headD .a) ((l.drop 1).headD .a)⟩]
theorem rowsT_len (T : Tbl) : ∀ (m : Nat) (left : Int) (r : List W), r ∈ rowsT T m left → r.length = m
  | 0, left, r, h => by
    unfold rowsT at h
    by_cases e : left = 0
    · rw [if_pos e] at h
      rw [List.mem_singleton] at h
      rw [h]; rfl
    · rw [if_neg e] at h; cases h
  | m + 1, left, r, h => by
    unfold rowsT at h
    rcases List.mem_append.mp h with h | h
    · obtain ⟨i, _, h⟩ := List.mem_flatMap.mp h
      obtain ⟨w, _, h⟩ := List.mem_flatMap.mp h
      obtain ⟨r', h', rfl⟩ := List.mem_map.mp h
      rw [List.length_cons, rowsT_len T m _ r' h']
    · by_cases e : m = 0 ∧ 0 < left
      · rw [if_pos e] at h
        obtain ⟨w, _, rfl⟩ := List.mem_map.mp h
        rw [e.1]; rfl
      · rw [if_neg e] at h; cases h
theorem mk_dat {q : Ar} (h : q ∈ ars) {r : List W} (hr : r.length = q.many) : (q.con r).dat = .tuple (.str q.nm :: r.map W.dat) := by
  unfold ars at h
  simp only [List.mem_cons, List.not_mem_nil, or_false] at h
  rcases h with rfl | rfl | rfl | rfl
  · rw [List.eq_nil_of_length_eq_zero hr]; rfl
  · rw [List.eq_nil_of_length_eq_zero hr]; rfl
  · match r, hr with
    | [x], _ => rfl
  · match r, hr with
    | [x, y], _ => rfl
def ofT (wt : Str → Int) (T : Tbl) (w : Int) : List W := ars.flatMap fun q => (rowsT T q.many (w - wt q.nm)).map q.con
def tb (wt : Str → Int) : Nat → Tbl
  | 0, _ => []
  | k + 1, w => ofT wt (tb wt k) w
structure TOk (wt : Str → Int) (T : Tbl) : Prop where
  fix : ∀ w, 1 ≤ w → w ≤ 4 → T w = ofT wt T w
  len : ∀ w, 1 ≤ w → w ≤ 4 → (T w).length ≤ 100
  rlen : ∀ m, m ≤ 2 → ∀ left, -1 ≤ left → left ≤ 3 → (rowsT T m left).length ≤ 1000
  wts : ∀ q : Ar, q ∈ ars → 1 ≤ wt q.nm ∧ wt q.nm ≤ 2
def wt4 (a b f g : Int) (x : Str) : Int := if x = "a" then a else if x = "b" then b else if x = "f" then f else if x = "g" then g else 0
def allW (wt : Str → Int) : List W := [1, 2, 3, 4].flatMap (tb wt 5)
def chk (wt : Str → Int) : Bool := ([1, 2, 3, 4] : List Int).all (fun w => decide (tb wt 5 w = ofT wt (tb wt 5) w) && decide ((tb wt 5 w).length ≤ 100)) && ([0, 1, 2] : List Nat).all (fun m => ([-1, 0, 1, 2, 3] : List Int).all fun l => decide ((rowsT (tb wt 5) m l).length ≤ 1000)) && decide ((allW wt).Nodup) && (allW wt).all (fun x => decide (x.ht ≤ 3) && decide (x.sz ≤ 900)) && decide (0 < (allW wt).length) && decide ((allW wt).length ≤ 100)
theorem chk_all : ∀ a ∈ ([1, 2] : List Int), ∀ b ∈ ([1, 2] : List Int), ∀ f ∈ ([1, 2] : List Int), ∀ g ∈ ([1, 2] : List Int), chk (wt4 a b f g) = true := by decide +kernel
theorem ofT_congr {wt wt' : Str → Int} (h : ∀ q : Ar, q ∈ ars → wt q.nm = wt' q.nm) (T : Tbl) (w : Int) : ofT wt T w = ofT wt' T w := by
  unfold ofT
  have : ∀ l : List Ar, (∀ q ∈ l, wt q.nm = wt' q.nm) → (l.flatMap fun q => (rowsT T q.many (w - wt q.nm)).map q.con) = l.flatMap fun q => (rowsT T q.many (w - wt' q.nm)).map q.con := fun l => by
    induction l with
    | nil => intro _; rfl
    | cons q r ih =>
      intro hq
      rw [List.flatMap_cons, List.flatMap_cons, hq q (List.mem_cons_self ..), ih fun x hx => hq x (List.mem_cons_of_mem _ hx)]
  exact this ars h
theorem tb_congr {wt wt' : Str → Int} (h : ∀ q : Ar, q ∈ ars → wt q.nm = wt' q.nm) : ∀ k, tb wt k = tb wt' k
  | 0 => rfl
  | k + 1 => funext fun w => by
    show ofT wt (tb wt k) w = ofT wt' (tb wt' k) w
    rw [tb_congr h k, ofT_congr h]
structure Good (wt : Str → Int) : Prop where
  tok : TOk wt (tb wt 5)
  nd : (allW wt).Nodup
  sm : ∀ x ∈ allW wt, x.ht ≤ 3 ∧ x.sz ≤ 900
  ne : 0 < (allW wt).length
  le : (allW wt).length ≤ 100
theorem i14 {w : Int} (h1 : 1 ≤ w) (h2 : w ≤ 4) : w ∈ ([1, 2, 3, 4] : List Int) := by
  have : w = 1 ∨ w = 2 ∨ w = 3 ∨ w = 4 := by omega
  rcases this with rfl | rfl | rfl | rfl <;> decide
theorem i13 {w : Int} (h1 : -1 ≤ w) (h2 : w ≤ 3) : w ∈ ([-1, 0, 1, 2, 3] : List Int) := by
  have : w = -1 ∨ w = 0 ∨ w = 1 ∨ w = 2 ∨ w = 3 := by omega
  rcases this with rfl | rfl | rfl | rfl | rfl <;> decide
theorem i02 {m : Nat} (h2 : m ≤ 2) : m ∈ ([0, 1, 2] : List Nat) := by
  have : m = 0 ∨ m = 1 ∨ m = 2 := by omega
  rcases this with rfl | rfl | rfl <;> decide
theorem good_of {wt : Str → Int} (h : ∀ x : W, wt x.nm = 1 ∨ wt x.nm = 2) : Good wt := by
  have m12 : ∀ x : W, wt x.nm ∈ ([1, 2] : List Int) := fun x => by rcases h x with q | q <;> rw [q] <;> decide
  have c := chk_all _ (m12 .a) _ (m12 .b) _ (m12 (.f .a)) _ (m12 (.g .a .a))
  generalize hw : wt4 (wt (W.nm .a)) (wt (W.nm .b)) (wt (W.nm (.f .a))) (wt (W.nm (.g .a .a))) = wt' at c
  have e : ∀ q : Ar, q ∈ ars → wt q.nm = wt' q.nm := fun q hq => by
    unfold ars at hq
    simp only [List.mem_cons, List.not_mem_nil, or_false] at hq
    rw [← hw]
    rcases hq with rfl | rfl | rfl | rfl
    · rfl
    · show wt "b" = if ("b" : Str) = "a" then _ else _
      rw [if_neg (by decide +kernel)]
      rfl
    · show wt "f" = if ("f" : Str) = "a" then _ else _
      rw [if_neg (by decide +kernel), if_neg (by decide +kernel)]
      rfl
    · show wt "g" = if ("g" : Str) = "a" then _ else _
      rw [if_neg (by decide +kernel), if_neg (by decide +kernel), if_neg (by decide +kernel)]
      rfl
  have et : tb wt 5 = tb wt' 5 := tb_congr e 5
  have ea : allW wt = allW wt' := by unfold allW; rw [et]
  unfold chk at c
  simp only [Bool.and_eq_true, List.all_eq_true, decide_eq_true_eq] at c
  obtain ⟨⟨⟨⟨⟨c1, c2⟩, c3⟩, c4⟩, c5⟩, c6⟩ := c
  refine ⟨⟨fun w h1 h2 => ?_, fun w h1 h2 => ?_, fun m hm l h1 h2 => ?_, fun q hq => ?_⟩, by rw [ea]; exact c3, by rw [ea]; exact c4, by rw [ea]; exact c5, by rw [ea]; exact c6⟩
  · rw [et, ofT_congr e]
    exact (c1 w (i14 h1 h2)).1
  · rw [et]
    exact (c1 w (i14 h1 h2)).2
  · rw [et]
    exact c2 m (i02 hm) l (i13 h1 h2)
  · unfold ars at hq
    simp only [List.mem_cons, List.not_mem_nil, or_false] at hq
    have hh : ∀ x : W, 1 ≤ wt x.nm ∧ wt x.nm ≤ 2 := fun x => by rcases h x with q | q <;> omega
    rcases hq with rfl | rfl | rfl | rfl
    · exact hh .a
    · exact hh .b
    · exact hh (.f .a)
    · exact hh (.g .a .a)
end K29

-- text: Law5
set_option linter.all false
set_option maxRecDepth 100000
set_option maxHeartbeats 4000000
namespace K29
open PySem PySem.Spec PyProof.Rows L2 DB
local macro_rules | `(tactic| walk_at "rd") => `(tactic| (dsimp only [cxOf, Cx.nox, L2.start, tRet, tRetN, tCB, tCons, tNil, tC, tVar, tTup, tLst, tB, tTest, tAnd, tOr, tNot, tAndV, tOrV, tNotV, tIfS, tIf, tSeq, tNext, tDrop, tOp, tUn, tAsg, gName, gSub, tSl, tPart, tNoPart, tCall, tPar, tBM, tChain, tYes, StX.tStar, tFld, tNotN, tIsN, tDNotIn, tDIn, tDGet, tDGet2, tDNewK, List.length_cons, List.length_nil, List.set_cons_zero, List.set_cons_succ, List.nil_append, List.cons_append, List.append_nil, gTup, gCons, gNil, tLockE, iKeys, XR.iZipTN, sFld, sDPut, iEnum, XR.iEnumK, XR.iEnumT, iList, RZ.iZipA, iTup, iRng1, iRng2]))
section
variable {P : Program} {w : World} {K : PySem.W.Frag} {mg : Str → Option Value} {base : Heap}

def arD : List PyData := ars.map fun q => .tuple [.str q.nm, .int (q.many : Nat)]
def rowsP (rs : List (List W)) : List PyData := rs.map fun r => .tuple (r.map W.dat)
structure KnownAt (K : PySem.W.Frag) (N : Addr → Prop) (H : Hp) (kd : Addr) (T : Tbl) : Prop where
  ex : ∃ kvs : List (Key × V), H kd = some (.dK kvs) ∧ (kvs.map (·.1)).Nodup ∧ (∀ p ∈ kvs, p.1 ∈ ([.inl 1, .inl 2, .inl 3, .inl 4] : List Key)) ∧ ∀ (i : Int) (v : V), valV kvs (.inl i) = some v → ∃ (l : Addr) (ys : List V), v = .ref l ∧ hide N H l = some (.lst ys) ∧ DpAll K (hide N H) ys ((T i).map W.dat)
structure EnvAt (K : PySem.W.Frag) (N : Addr → Prop) (H : Hp) (r ar : V) (kd : Addr) (rws : List (Str × Int)) (T : Tbl) : Prop where
  tr : Tr N H
  nk : N kd
  rd : Dp K (hide N H) r (.list (rowsD rws))
  ad : Dp K (hide N H) ar (.list arD)
  kn : KnownAt K N H kd T
section
variable {N : Addr → Prop} {H H' : Hp} {r ar : V} {kd : Addr} {rws : List (Str × Int)} {T : Tbl}
theorem KnownAt.to {M : Addr → Prop} (k : KnownAt K N H kd T) (e : Same (hide N H) (hide M H')) (d : H' kd = H kd) : KnownAt K M H' kd T := by
  obtain ⟨kvs, a, b, c, f⟩ := k.ex
  refine ⟨kvs, d.trans a, b, c, fun i v h => ?_⟩
  obtain ⟨l, ys, h1, h2, h3⟩ := f i v h
  exact ⟨l, ys, h1, e _ _ h2, DpAll.same e h3⟩
theorem KnownAt.dct (k : KnownAt K N H kd T) : ∃ kvs, H kd = some (.dK kvs) := by
  obtain ⟨kvs, a, _⟩ := k.ex
  exact ⟨kvs, a⟩
theorem EnvAt.same (E : EnvAt K N H r ar kd rws T) (e : Same H H') : EnvAt K N H' r ar kd rws T := by
  obtain ⟨kvs, a⟩ := E.kn.dct
  exact ⟨E.tr.same e, E.nk, Dp.same (hide_mono e) E.rd, Dp.same (hide_mono e) E.ad, E.kn.to (hide_mono e) ((e _ _ a).trans a.symm)⟩
theorem EnvAt.new {p : Addr} {o : HO} (E : EnvAt K N H r ar kd rws T) (h : H p = none) (e : Same H H') (hp : H' p = some o) : EnvAt K (plus N p) H' r ar kd rws T := by
  obtain ⟨kvs, a⟩ := E.kn.dct
  exact ⟨plus_tr (E.tr.same e) hp, .inr E.nk, Dp.same (plus_same h e) E.rd, Dp.same (plus_same h e) E.ad, E.kn.to (plus_same h e) ((e _ _ a).trans a.symm)⟩
theorem EnvAt.upd {p : Addr} {o : HO} (E : EnvAt K N H r ar kd rws T) (h : N p) (n : p ≠ kd) : EnvAt K N (upd H p o) r ar kd rws T := by
  refine ⟨tr_upd E.tr, E.nk, ?_, ?_, E.kn.to ?_ (upd_ne (Ne.symm n))⟩
  · rw [hide_in h]; exact E.rd
  · rw [hide_in h]; exact E.ad
  · rw [hide_in h]; exact Same.refl _
theorem EnvAt.down {p : Addr} (E : EnvAt K (plus N p) H r ar kd rws T) (t : Tr N H) (h : N kd) : EnvAt K N H r ar kd rws T := ⟨t, h, Dp.same plus_down E.rd, Dp.same plus_down E.ad, E.kn.to plus_down rfl⟩
end
def spRowsOf (K : PySem.W.Frag) (w m : Nat) : Sp := fun vs H Q _ => ∃ N r ar kd rws T m' l, vs = [r, ar, .int (m' : Nat), .int l, .ref kd] ∧ Full rws ∧ TOk (wtOf rws) T ∧ EnvAt K N H r ar kd rws T ∧ m' ≤ m ∧ m ≤ 2 ∧ -1 ≤ l ∧ l ≤ w ∧ w ≤ 3 ∧
  ∀ H' D ys, EnvAt K N H' r ar kd rws T → Kept (one kd) H H' → H D = none → H' D = some (.lst ys) → DpAll K (hide N H') ys (rowsP (rowsT T m' l)) → Q (.ref D) H'
def spOfW (K : PySem.W.Frag) (w : Nat) : Sp := fun vs H Q _ => ∃ N r ar kd rws T i, vs = [r, ar, .int i, .ref kd] ∧ Full rws ∧ TOk (wtOf rws) T ∧ EnvAt K N H r ar kd rws T ∧ 1 ≤ i ∧ i ≤ w ∧ w ≤ 4 ∧
  ∀ H' D ys, EnvAt K N H' r ar kd rws T → Kept (one kd) H H' → hide N H' D = some (.lst ys) → DpAll K (hide N H') ys ((T i).map W.dat) → Q (.ref D) H'
abbrev st__law_rows_of : Stmt := top 39
theorem sc__law_rows_of : FnScope ["rows", "arities", "many", "weight", "known", "found", "first", "word", "row"] ["rows", "arities", "many", "weight", "known"] (defScope st__law_rows_of) := ⟨rfl, rfl, rfl, by decide +kernel, rfl, by decide +kernel, by decide +kernel⟩

theorem ok_rows0 (D : Def K mg "_law_rows_of" st__law_rows_of ["rows", "arities", "many", "weight", "known"]) (w_ : Nat) : Callee P w K mg base 1 "_law_rows_of" ["rows", "arities", "many", "weight", "known"] (spRowsOf K w_ 0) := by
  obtain ⟨f, fd, F, b, m⟩ := D.ex
  refine ⟨f, fd, F.ok sc__law_rows_of (fun vs H Q E h => ?_) (fun cdv A outer s H vs Q E hr h => ?_), b, F.kp, m⟩
  · obtain ⟨N, r, ar, kd, rws, T, m', l, rfl, _⟩ := h
    rfl
  · obtain ⟨N, r, ar, kd, rws, T, m', l, rfl, FL, TK, EV, hm, _, hl1, hl2, hw3, k⟩ := h
    obtain rfl : m' = 0 := by omega
    refine ⟨_, (pss_cons (ps_if (pt_cmpR op_eq (pv 2) pe_int (nomark _)) (pss_one (ps_ret (pe_ifExp (pt_cmpR op_eq (pv 3) pe_int (nomark _)) (pe_lst (pa_cons (pe_tup pa_nil) pa_nil)) (pe_lst pa_nil)))) pss_nil) pss_never), ?_⟩
    walk_at "rd"
    refine ⟨_, rfl, rfl, _, rfl, ?_⟩
    rw [if_pos (by decide)]
    refine ⟨_, rfl, rfl, _, rfl, ?_⟩
    by_cases e : l = 0
    · subst e
      refine iteT ?_
      refine ⟨by decide, fun p1 h1 => ⟨by decide, fun p2 h2 => ?_⟩⟩
      have e1 := same_new h1 (.tup [])
      have e2 := same_new h2 (.lst [.ref p1])
      refine k _ p2 [.ref p1] (EV.same (e1.trans e2)) (Kept.of (e1.trans e2)) (none_of_none e1 h2) upd_same (.cons ?_ .nil)
      exact .tup (.inl (.inl ((hide_off (EV.tr.off h1)).trans (e2 _ _ upd_same)))) .nil
    · rw [show decide (V.int l = V.int 0) = false from decide_eq_false fun q => e (V.int.inj q)]
      refine iteF ?_
      refine ⟨by decide, fun p1 h1 => ?_⟩
      have e1 := same_new h1 (.lst [])
      refine k _ p1 [] (EV.same e1) (Kept.of e1) h1 upd_same ?_
      unfold rowsT
      rw [if_neg e]
      exact .nil
theorem ok_rowsS (G : Glob K mg) (D : Def K mg "_law_rows_of" st__law_rows_of ["rows", "arities", "many", "weight", "known"]) {w_ n j : Nat} (c__law_rows_of : Callee P w K mg base j "_law_rows_of" ["rows", "arities", "many", "weight", "known"] (spRowsOf K w_ n)) (c__law_of_weight : Callee P w K mg base j "_law_of_weight" ["rows", "arities", "weight", "known"] (spOfW K w_)) : Callee P w K mg base (j + 1) "_law_rows_of" ["rows", "arities", "many", "weight", "known"] (spRowsOf K w_ (n + 1)) := by
  obtain ⟨f, fd, F, b, m⟩ := D.ex
  have z_range := G.range
  refine ⟨f, fd, F.ok sc__law_rows_of (fun vs H Q E h => ?_) (fun cdv A outer s H vs Q E hr h => ?_), b, F.kp, m⟩
  · obtain ⟨N, r, ar, kd, rws, T, m', l, rfl, _⟩ := h
    rfl
  · obtain ⟨N, r, ar, kd, rws, T, m', l, rfl, FL, TK, EV, hm, hn2, hl1, hl2, hw3, k⟩ := h
    have hr__law_rows_of := hr
    have hr__law_of_weight := hr
    refine ⟨_, (pss_cons (ps_if (pt_cmpR op_eq (pv 2) pe_int (nomark _)) (pss_one (ps_ret (pe_ifExp (pt_cmpR op_eq (pv 3) pe_int (nomark _)) (pe_lst (pa_cons (pe_tup pa_nil) pa_nil)) (pe_lst pa_nil)))) pss_nil) (pss_cons (ps_set (i := 5) sc__law_rows_of.nd rfl (Or.inl rfl) (pe_lst pa_nil)) (pss_cons (ps_for PassesOwn.never rfl (pi_range2 rfl z_range (pa_cons pe_int (pa_cons (pv 3) pa_nil))) (pg_name (i := 6) sc__law_rows_of.nd rfl (Or.inl rfl)) (pss_one (ps_for PassesOwn.never rfl (pi_list (pe_own c__law_of_weight hr__law_of_weight rfl (pa_cons (pv 0) (pa_cons (pv 1) (pa_cons (pv 6) (pa_cons (pv 4) pa_nil)))))) (pg_name (i := 7) sc__law_rows_of.nd rfl (Or.inr rfl)) (pss_one (ps_expr (pe_bm PySem.F.plainAttrs_list PySem.F.slot_list_extend PySem.F.type_list_extend mt_extend (pv 5) (pa_cons (pe_lc (own := [("row", 8)]) (g := (gName 8)) (tt := tYes) rfl sc__law_rows_of.nd (pi_list (pe_own c__law_rows_of hr__law_rows_of rfl (pa_cons (pv 0) (pa_cons (pv 1) (pa_cons (pe_op op_sub (pv 2) pe_int) (pa_cons (pe_op op_sub (pv 3) (pv 6)) (pa_cons (pv 4) pa_nil))))))) (blkOk_by (N := ["rows", "arities", "many", "weight", "known", "found", "first", "word", "row"]) (sc := defScope st__law_rows_of) (by decide +kernel)) (fun _ _ _ _ _ => (pg_name (i := 8) sc__law_rows_of.nd rfl (Or.inl rfl))) (fun _ _ _ _ _ => pts_nil) (fun _ _ _ _ _ => (pe_op (show OpR _ _ (rCatA K) from op_catA) (pe_tup (pa_cons (pv 7) pa_nil)) (pv 8)))) pa_nil))))))) (pss_cons (ps_if (PW.pt (pw_and (pt_cmpR op_eq (pv 2) pe_int (nomark _)) (pw_and1 (pt_cmpR op_gt (pv 3) pe_int (nomark _))))) (pss_one (ps_expr (pe_bm PySem.F.plainAttrs_list PySem.F.slot_list_extend PySem.F.type_list_extend mt_extend (pv 5) (pa_cons (pe_lc (own := [("word", 7)]) (g := (gName 7)) (tt := tYes) rfl sc__law_rows_of.nd (pi_list (pe_own c__law_of_weight hr__law_of_weight rfl (pa_cons (pv 0) (pa_cons (pv 1) (pa_cons (pv 3) (pa_cons (pv 4) pa_nil)))))) (blkOk_by (N := ["rows", "arities", "many", "weight", "known", "found", "first", "word", "row"]) (sc := defScope st__law_rows_of) (by decide +kernel)) (fun _ _ _ _ _ => (pg_name (i := 7) sc__law_rows_of.nd rfl (Or.inl rfl))) (fun _ _ _ _ _ => pts_nil) (fun _ _ _ _ _ => (pe_tup (pa_cons (pv 7) pa_nil)))) pa_nil)))) pss_nil) (pss_one (ps_ret (pv 5))))))), ?_⟩
    have em : decide (V.int (m' : Nat) = V.int 0) = decide (m' = 0) := by
      by_cases q : m' = 0
      · subst q; rfl
      · rw [decide_eq_false q, decide_eq_false]
        intro z
        exact q (by have := V.int.inj z; omega)
    refine q_when (decide (m' = 0)) (fun Q1 q1 => ?_) (fun hb H1 e1 => ?_) (fun hb H1 e1 => ?_)
    · walk_at "rd"
      refine ⟨_, rfl, rfl, _, rfl, ?_⟩
      rw [em]
      exact q1 _ (Same.refl _)
    · obtain rfl : m' = 0 := of_decide_eq_true hb
      walk_at "rd"
      refine ⟨_, rfl, rfl, _, rfl, ?_⟩
      by_cases e : l = 0
      · subst e
        refine iteT ?_
        refine ⟨by decide, fun p1 h1 => ⟨by decide, fun p2 h2 => ?_⟩⟩
        have e2 := e1.trans (same_new h1 (.tup []))
        have e3 := same_new h2 (.lst [.ref p1])
        refine k _ p2 [.ref p1] (EV.same (e2.trans e3)) (Kept.of (e2.trans e3)) (none_of_none e2 h2) upd_same (.cons ?_ .nil)
        exact .tup (.inl (.inl ((hide_off ((EV.tr.same e1).off h1)).trans (e3 _ _ upd_same)))) .nil
      · rw [show decide (V.int l = V.int 0) = false from decide_eq_false fun q => e (V.int.inj q)]
        refine iteF ?_
        refine ⟨by decide, fun p1 h1 => ?_⟩
        have e2 := e1.trans (same_new h1 (.lst []))
        refine k _ p1 [] (EV.same e2) (Kept.of e2) (none_of_none e1 h1) upd_same ?_
        unfold rowsT
        rw [if_neg e]
        exact .nil
    have hm0 : m' ≠ 0 := of_decide_eq_false hb
    obtain ⟨m0, rfl⟩ : ∃ m0, m' = m0 + 1 := ⟨m' - 1, by omega⟩
    refine q_seq (fun σ' H' => ∃ p, σ' = [some r, some ar, some (.int ((m0 + 1 : Nat) : Int)), some (.int l), some (.ref kd), some (.ref p), none, none, none] ∧ H p = none ∧ Same H H' ∧ H' p = some (.lst [])) (fun Z z => ?_) (fun σ2 H2 hp2 => ?_)
    · walk_at "rd"
      exact ⟨by decide, fun p hp => z _ _ ⟨p, rfl, none_of_none e1 hp, e1.trans (same_new hp _), upd_same⟩⟩
    obtain ⟨p, rfl, hp0, s2, hp2⟩ := hp2
    have EV2 := EV.new hp0 s2 hp2
    have npk : p ≠ kd := fun q => by subst q; obtain ⟨_, a⟩ := EV.kn.dct; rw [hp0] at a; cases a
    -- the loops
    refine q_seq (fun σ' H' => ∃ u1 u2 ys, σ' = [some r, some ar, some (.int ((m0 + 1 : Nat) : Int)), some (.int l), some (.ref kd), some (.ref p), u1, u2, none] ∧ EnvAt K (plus N p) H' r ar kd rws T ∧ Kept (two kd p) H2 H' ∧ H' p = some (.lst ys) ∧ ys.length ≤ 1000000 ∧ DpAll K (hide (plus N p) H') ys (rowsP ((List.range (l - 1).toNat).flatMap fun (i : Nat) => (T (1 + (i : Int))).flatMap fun w => (rowsT T m0 (l - (1 + (i : Int)))).map fun r => w :: r))) (fun Z z => ?_) (fun σ3 H3 hp3 => ?_)
    · refine rd_for ?_
      walk_at "rd"
      refine ⟨_, rfl, 1, l, rfl, ⟨by decide, by decide, by omega, by omega⟩, ?_⟩
      refine forq (St := fun _ => True) (sp_range (lo := 1)) (fun i σ' H' => ∃ u1 u2 ys, σ' = [some r, some ar, some (.int ((m0 + 1 : Nat) : Int)), some (.int l), some (.ref kd), some (.ref p), u1, u2, none] ∧ EnvAt K (plus N p) H' r ar kd rws T ∧ Kept (two kd p) H2 H' ∧ H' p = some (.lst ys) ∧ ys.length ≤ 200000 * i ∧ DpAll K (hide (plus N p) H') ys (rowsP ((List.range i).flatMap fun (i : Nat) => (T (1 + (i : Int))).flatMap fun w => (rowsT T m0 (l - (1 + (i : Int)))).map fun r => w :: r))) ⟨_, _, [], rfl, EV2, Kept.refl _, hp2, Nat.zero_le _, .nil⟩ (fun _ _ _ _ => trivial) (fun i v σ' H' H'' hi q e hr' => ?_) (fun σ' H' q => ?_)
      · obtain ⟨u1, u2, ys, rfl, E3, k3, hp3, ly3, d3⟩ := q
        obtain ⟨rfl, rfl⟩ := hr'
        have hi1 : (1 + (i : Int)) < l := by omega
        show tFor _ _ _ _ _ _
        refine rd_for ?_
        walk_at "rd"
        refine ⟨_, rfl, _, rfl, _, rfl, _, rfl, plus N p, r, ar, kd, rws, T, _, rfl, FL, TK, E3, by omega, by omega, by omega, fun H4 l4 ys4 E4 k4 hl4 d4 => ?_⟩
        have hp4 : H4 p = some (.lst ys) := k4.at (show ¬ one kd p from npk) hp3
        have nl4 : ¬ plus N p l4 := (hide_some hl4).1
        have hl4' : H4 l4 = some (.lst ys4) := (hide_some hl4).2
        have lT := TK.len _ (show 1 ≤ 1 + (i : Int) by omega) (by omega)
        have ly4 : ys4.length = (T (1 + (i : Int))).length := by have := DpAll.length d4; rw [List.length_map] at this; exact this
        have sub1 : ∀ a, one kd a → two kd p a := fun a h => .inl h
        have sub2 : ∀ a, two kd p a → plus N p a := fun a h => h.elim (fun h => .inr (by rw [h]; exact EV.nk)) fun h => .inl h
        refine ⟨l4, rfl, ⟨_, .inl (.inl hl4')⟩, ?_⟩
        refine forq (sp_list (K := K) (xs := ys4)) (fun j σ' H' => ∃ u2 ys', σ' = [some r, some ar, some (.int ((m0 + 1 : Nat) : Int)), some (.int l), some (.ref kd), some (.ref p), some (.int (1 + (i : Int))), u2, none] ∧ EnvAt K (plus N p) H' r ar kd rws T ∧ Kept (two kd p) H4 H' ∧ H' p = some (.lst ys') ∧ ys'.length ≤ 200000 * i + 1000 * j ∧ DpAll K (hide (plus N p) H') ys' (rowsP (((List.range i).flatMap fun (i : Nat) => (T (1 + (i : Int))).flatMap fun w => (rowsT T m0 (l - (1 + (i : Int)))).map fun r => w :: r) ++ ((T (1 + (i : Int))).take j).flatMap fun w => (rowsT T m0 (l - (1 + (i : Int)))).map fun r => w :: r))) ⟨_, ys, rfl, E4, Kept.refl _, hp4, ly3, ?_⟩ (fun j σ' H' q => ?_) (fun j v σ' H' H'' hj q e hr' => ?_) (fun σ' H' q => ?_)
        · rw [List.take_zero, List.flatMap_nil, List.append_nil]
          exact DpAll.same (k4.sub fun a h => sub2 a (sub1 a h)) d3
        · obtain ⟨_, _, _, _, kk, _⟩ := q
          exact .inl (.inl (kk.at (fun h => nl4 (sub2 _ h)) hl4'))
        · obtain ⟨u2, ys', rfl, E5, k5, hp5, ly5, d5⟩ := q
          obtain ⟨hv, rfl⟩ := hr'
          have d4' := DpAll.same (k5.sub sub2) d4
          obtain ⟨dd, hd1, hd2⟩ := DpAll.get d4' hv
          rw [List.getElem?_map] at hd1
          have hxw : ∃ xw, (T (1 + (i : Int)))[j]? = some xw := ⟨_, List.getElem?_eq_getElem (by omega)⟩
          obtain ⟨xw, hxw⟩ := hxw
          rw [hxw] at hd1
          cases (Option.some.inj hd1)
          walk_at "rd"
          refine ⟨_, rfl, .inl ⟨rfl, _, .inl (.inl hp5)⟩, ?_⟩
          refine rd_lc ?_
          walk_at "rd"
          refine ⟨_, rfl, _, rfl, _, rfl, _, _, rfl, rfl, _, rfl, _, rfl, _, _, rfl, rfl, _, rfl, plus N p, r, ar, kd, rws, T, m0, l - (1 + (i : Int)), ?_, FL, TK, E5, by omega, by omega, by omega, by omega, by omega, fun H6 l6 ys6 E6 k6 hl60 hl6 d6 => ?_⟩
          · show [r, ar, V.int (((m0 + 1 : Nat) : Int) - 1), V.int (l - (1 + (i : Int))), V.ref kd] = _
            rw [show (((m0 + 1 : Nat) : Int) - 1) = (m0 : Nat) by omega]
          have hp6 : H6 p = some (.lst ys') := k6.at (show ¬ one kd p from npk) hp5
          have lR := TK.rlen m0 (by omega) (l - (1 + (i : Int))) (by omega) (by omega)
          have ly6 : ys6.length = (rowsT T m0 (l - (1 + (i : Int)))).length := by have := DpAll.length d6; unfold rowsP at this; rw [List.length_map] at this; exact this
          refine ⟨l6, rfl, ⟨_, .inl (.inl hl6)⟩, ?_⟩
          refine lcp (K := K) (N := plus N p) E6.tr (src_list (.inl (.inl hl6))) (by omega) (fun _ => true) (fun q => (fun r : List W => PyData.tuple ((xw :: r).map W.dat)) ((rowsT T m0 (l - (1 + (i : Int)))).getD q [])) (fun q y H7 N7 Q2 Q3 hq e7 r7 tr7 hs7 q2 q3 => ?_) (fun Dl H7 ys7 nD e7 hy7 da => ?_)
          · obtain ⟨d7, hd7, hy7⟩ := DpAll.get (DpAll.same hs7 d6) r7
            have hrw : ∃ rw', (rowsT T m0 (l - (1 + (i : Int))))[q]? = some rw' := ⟨_, List.getElem?_eq_getElem (by omega)⟩
            obtain ⟨rw', hrw⟩ := hrw
            unfold rowsP at hd7
            rw [List.getElem?_map, hrw] at hd7
            cases (Option.some.inj hd7)
            cases hy7 with
            | @tup Ta us _ hTa dus =>
            have hsz : us.length ≤ 2 := by
              have h1 := DpAll.length dus
              rw [List.length_map] at h1
              have h2 := rowsT_len T m0 _ rw' (List.mem_of_getElem? hrw)
              omega
            have dw7 : Dp K (hide N7 H7) v xw.dat := Dp.same hs7 (Dp.same (k6.sub fun a h => sub2 a (sub1 a h)) hd2)
            walk_at "rd"
            refine ⟨rfl, iteT ?_⟩
            refine ⟨_, rfl, by decide, fun p7 hp7 => ⟨_, rfl, ?_⟩⟩
            have e8 := same_new hp7 (.tup [v])
            have n7 : ¬ N7 p7 := tr7.off hp7
            have edat : (fun r : List W => PyData.tuple ((xw :: r).map W.dat)) ((rowsT T m0 (l - (1 + (i : Int)))).getD q []) = .tuple (xw.dat :: rw'.map W.dat) := by
              rw [List.getD_eq_getElem?_getD, hrw]
              rfl
            refine ⟨p7, Ta, [v], us, rfl, rfl, .inl (.inl upd_same), Same.tupL e8 (Same.tupL hide_same hTa), ?_, fun z => (nomatch z), fun _ hus => ?_, fun _ _ p8 hp8 => ?_⟩
            · exact Nat.le_trans (show [v].length + us.length ≤ 3 by rw [List.length_singleton]; omega) (by decide)
            · subst hus
              refine q2 _ _ e8 rfl ?_
              rw [edat]
              cases hrd : rw'.map W.dat with
              | nil => exact .tup (.inl (.inl ((hide_off n7).trans upd_same))) (.cons (Dp.same (hide_mono e8) dw7) .nil)
              | cons _ _ => rw [hrd] at dus; cases dus
            · have e9 := same_new hp8 (.tup ([v] ++ us))
              have n8 : ¬ N7 p8 := (tr7.same e8).off hp8
              refine q2 _ _ (e8.trans e9) rfl ?_
              rw [edat]
              exact .tup (.inl (.inl ((hide_off n8).trans upd_same))) (.cons (Dp.same (hide_mono (e8.trans e9)) dw7) (DpAll.same (hide_mono (e8.trans e9)) dus))
          · have da2 : DpAll K (hide (plus N p) H7) ys7 (rowsP ((rowsT T m0 (l - (1 + (i : Int)))).map fun r => xw :: r)) := by
              have := map_range (rowsT T m0 (l - (1 + (i : Int)))) (fun r : List W => PyData.tuple ((xw :: r).map W.dat)) []
              rw [ly6, this] at da
              unfold rowsP
              rw [List.map_map]
              exact da
            have hp7 := e7 _ _ hp6
            have ly7 : ys7.length ≤ 1000 := by
              have := DpAll.length da2
              unfold rowsP at this
              rw [List.length_map, List.length_map] at this
              omega
            have E7 := E6.same e7
            refine ⟨p, Dl, ys', ys7, rfl, rfl, hp7, hy7, ?_, ?_⟩
            · exact Nat.le_trans (show ys'.length + ys7.length ≤ 5000000 by omega) (by decide)
            · refine ⟨_, ys' ++ ys7, rfl, E7.upd (.inl rfl) npk, ?_, upd_same, by rw [List.length_append]; omega, ?_⟩
              · exact ((k5.trans (k6.sub sub1)).trans (Kept.of e7)).upd (.inr rfl)
              · rw [plus_in, take_snoc hxw, List.flatMap_append, ← List.append_assoc]
                have d7 : DpAll K (hide (plus N p) H7) ys' _ := DpAll.same ((k6.sub fun a h => sub2 a (sub1 a h)).trans (Kept.of e7)) d5
                have := DpAll.app d7 da2
                unfold rowsP at this ⊢
                rw [← List.map_append] at this
                simpa using this
        · obtain ⟨u2, ys', rfl, E5, k5, hp5, ly5, d5⟩ := q
          refine ⟨_, _, ys', rfl, E5, (k3.trans (k4.sub sub1)).trans k5, hp5, by omega, ?_⟩
          rw [ly4, List.take_length] at d5
          rw [List.range_succ, List.flatMap_append]
          simpa using d5
      · obtain ⟨u1, u2, ys, rfl, E3, k3, hp3, ly3, d3⟩ := q
        exact z _ _ ⟨_, _, ys, rfl, E3, k3, hp3, by omega, d3⟩
    obtain ⟨u1, u2, ys, rfl, EV3, k3, hp3, ly3, d3⟩ := hp3
    have sub1 : ∀ a, one kd a → two kd p a := fun a h => .inl h
    have sub2 : ∀ a, two kd p a → plus N p a := fun a h => h.elim (fun h => .inr (by rw [h]; exact EV.nk)) fun h => .inl h
    refine q_seq (fun σ' H' => ∃ u1 u2 ys, σ' = [some r, some ar, some (.int ((m0 + 1 : Nat) : Int)), some (.int l), some (.ref kd), some (.ref p), u1, u2, none] ∧ EnvAt K (plus N p) H' r ar kd rws T ∧ Kept (two kd p) H2 H' ∧ H' p = some (.lst ys) ∧ DpAll K (hide (plus N p) H') ys (rowsP (rowsT T (m0 + 1) l))) (fun Z z => ?_) (fun σ4 H4 hp4 => ?_)
    · refine if_t (decide (m0 = 0) && decide (0 < l)) (fun Q1 q1 => ?_) (fun hb H4 e4 => ?_) (fun hb H4 e4 => ?_)
      · walk_at "rd"
        refine ⟨_, rfl, rfl, _, rfl, ?_⟩
        have e1' : decide (V.int ((m0 + 1 : Nat) : Int) = V.int 1) = decide (m0 = 0) := by
          by_cases q : m0 = 0
          · subst q; rfl
          · rw [decide_eq_false q, decide_eq_false]
            intro z
            exact q (by have := V.int.inj z; omega)
        rw [e1']
        refine ite_b (fun q => ?_) (fun q => ?_)
        · refine ⟨_, rfl, _, _, rfl, rfl, _, rfl, ?_⟩
          have := q1 _ (Same.refl _)
          rw [q, Bool.true_and] at this
          exact this
        · have := q1 _ (Same.refl _)
          rw [q, Bool.false_and] at this
          exact this
      · rw [Bool.and_eq_true] at hb
        have h0 : m0 = 0 := of_decide_eq_true hb.1
        have hl0 : 0 < l := of_decide_eq_true hb.2
        have E4 := EV3.same e4
        walk_at "rd"
        refine ⟨_, rfl, .inl ⟨rfl, _, .inl (.inl (e4 _ _ hp3))⟩, ?_⟩
        refine rd_lc ?_
        walk_at "rd"
        refine ⟨_, rfl, _, rfl, _, rfl, _, rfl, plus N p, r, ar, kd, rws, T, l, rfl, FL, TK, E4, by omega, by omega, by omega, fun H5 l5 ys5 E5 k5 hl5 d5 => ?_⟩
        have hp5 : H5 p = some (.lst ys) := k5.at (show ¬ one kd p from npk) (e4 _ _ hp3)
        have hl5' := (hide_some hl5).2
        have lT := TK.len l (by omega) (by omega)
        have ly5 : ys5.length = (T l).length := by have := DpAll.length d5; rw [List.length_map] at this; exact this
        refine ⟨l5, rfl, ⟨_, .inl (.inl hl5')⟩, ?_⟩
        refine lcp (K := K) (N := plus N p) E5.tr (src_list (.inl (.inl hl5'))) (by omega) (fun _ => true) (fun q => (fun w : W => PyData.tuple [w.dat]) ((T l).getD q .a)) (fun q y H7 N7 Q2 Q3 hq e7 r7 tr7 hs7 q2 q3 => ?_) (fun Dl H7 ys7 nD e7 hy7 da => ?_)
        · obtain ⟨d7, hd7, hy7⟩ := DpAll.get (DpAll.same hs7 d5) r7
          have hrw : ∃ rw', (T l)[q]? = some rw' := ⟨_, List.getElem?_eq_getElem (by omega)⟩
          obtain ⟨rw', hrw⟩ := hrw
          rw [List.getElem?_map, hrw] at hd7
          cases (Option.some.inj hd7)
          walk_at "rd"
          refine ⟨rfl, iteT ?_⟩
          refine ⟨_, rfl, by decide, fun p7 hp7 => ?_⟩
          have e8 := same_new hp7 (.tup [y])
          refine q2 _ _ e8 rfl ?_
          rw [List.getD_eq_getElem?_getD, hrw]
          exact .tup (.inl (.inl ((hide_off (tr7.off hp7)).trans upd_same))) (.cons (Dp.same (hide_mono e8) hy7) .nil)
        · have da2 : DpAll K (hide (plus N p) H7) ys7 (rowsP ((T l).map fun w => [w])) := by
            have := map_range (T l) (fun w : W => PyData.tuple [w.dat]) .a
            rw [ly5, this] at da
            unfold rowsP
            rw [List.map_map]
            exact da
          have hp7 := e7 _ _ hp5
          have ly7 : ys7.length ≤ 1000 := by
            have := DpAll.length da2
            unfold rowsP at this
            rw [List.length_map, List.length_map] at this
            omega
          have E7 := E5.same e7
          refine ⟨p, Dl, ys, ys7, rfl, rfl, hp7, hy7, ?_, ?_⟩
          · exact Nat.le_trans (show ys.length + ys7.length ≤ 5000000 by omega) (by decide)
          · refine z _ _ ⟨_, _, ys ++ ys7, rfl, E7.upd (.inl rfl) npk, ?_, upd_same, ?_⟩
            · exact (((k3.trans (Kept.of e4)).trans (k5.sub sub1)).trans (Kept.of e7)).upd (.inr rfl)
            · rw [plus_in]
              have d7 : DpAll K (hide (plus N p) H7) ys _ := DpAll.same (((Kept.of (N := plus N p) e4).trans (k5.sub fun a h => sub2 a (sub1 a h))).trans (Kept.of e7)) d3
              have := DpAll.app d7 da2
              unfold rowsP at this ⊢
              rw [← List.map_append] at this
              unfold rowsT
              rw [if_pos ⟨h0, hl0⟩]
              exact this
      · refine z _ _ ⟨_, _, ys, rfl, EV3.same e4, k3.trans (Kept.of e4), e4 _ _ hp3, ?_⟩
        have := DpAll.same (hide_mono (N := plus N p) e4) d3
        unfold rowsT
        rw [if_neg (fun q => by rw [decide_eq_true q.1, decide_eq_true q.2] at hb; cases hb), List.append_nil]
        exact this
    obtain ⟨u1, u2, ys, rfl, EV4, k4, hp4, d4⟩ := hp4
    walk_at "rd"
    refine ⟨_, rfl, ?_⟩
    have kk : Kept (one kd) H H4 := fun a o q => by
      obtain ⟨n1, q⟩ := hide_some q
      rw [hide_off n1]
      have n2 : ¬ two kd p a := fun h => h.elim n1 fun z => by subst z; rw [hp0] at q; cases q
      exact k4.at n2 (s2 _ _ q)
    have trN : Tr N H4 := fun a h => EV4.tr a (.inr h)
    exact k H4 p ys (EV4.down trN EV.nk) kk hp0 hp4 (DpAll.same plus_down d4)
abbrev st__law_of_weight : Stmt := top 38
theorem sc__law_of_weight : FnScope ["rows", "arities", "weight", "known", "found", "name", "many", "left", "row"] ["rows", "arities", "weight", "known"] (defScope st__law_of_weight) := ⟨rfl, rfl, rfl, by decide +kernel, rfl, by decide +kernel, by decide +kernel⟩

theorem list_at {K : PySem.W.Frag} {h : Hp} {v : V} {ds : List PyData} (d : Dp K h v (.list ds)) : ∃ (a : Addr) (xs : List V), v = .ref a ∧ SqL K h a xs ∧ DpAll K h xs ds := by
  cases d with
  | lst h a => exact ⟨_, _, rfl, h, a⟩
theorem nodup_snoc {α : Type} {k : α} : ∀ {l : List α}, l.Nodup → ¬ k ∈ l → (l ++ [k]).Nodup
  | [], _, _ => by simp
  | a :: l, h, hk => by
    rw [List.nodup_cons] at h
    rw [List.cons_append, List.nodup_cons]
    refine ⟨fun hm => ?_, nodup_snoc h.2 fun q => hk (List.mem_cons_of_mem _ q)⟩
    rcases List.mem_append.mp hm with q | q
    · exact h.1 q
    · exact hk (List.mem_cons.mpr (Or.inl (List.mem_singleton.mp q).symm))
theorem nodup_le {α : Type} [DecidableEq α] : ∀ {l m : List α}, l.Nodup → (∀ x ∈ l, x ∈ m) → l.length ≤ m.length
  | [], _, _, _ => Nat.zero_le _
  | x :: l, m, h, s => by
    rw [List.nodup_cons] at h
    have hx : x ∈ m := s x (List.mem_cons_self ..)
    have := nodup_le (l := l) (m := m.erase x) h.2 fun y hy => by
      have ne : y ≠ x := fun q => h.1 (by rw [← q]; exact hy)
      exact (List.mem_erase_of_ne ne).mpr (s y (List.mem_cons_of_mem _ hy))
    rw [List.length_erase_of_mem hx] at this
    have hp : 0 < m.length := List.length_pos_of_mem hx
    rw [List.length_cons]
    omega
theorem key14 {w : Int} (h1 : 1 ≤ w) (h2 : w ≤ 4) : (Sum.inl w : Key) ∈ ([.inl 1, .inl 2, .inl 3, .inl 4] : List Key) := by
  have : w = 1 ∨ w = 2 ∨ w = 3 ∨ w = 4 := by omega
  rcases this with rfl | rfl | rfl | rfl <;> simp
theorem wt_of_row {rws : List (Str × Int)} (F : Full rws) (q : Ar) (h : q ∈ ars) : ∃ x : W, x.nm = q.nm := by
  unfold ars at h
  simp only [List.mem_cons, List.not_mem_nil, or_false] at h
  rcases h with rfl | rfl | rfl | rfl
  · exact ⟨.a, rfl⟩
  · exact ⟨.b, rfl⟩
  · exact ⟨.f .a, rfl⟩
  · exact ⟨.g .a .a, rfl⟩
theorem ok_of_weight0 (D : Def K mg "_law_of_weight" st__law_of_weight ["rows", "arities", "weight", "known"]) : Callee P w K mg base 1 "_law_of_weight" ["rows", "arities", "weight", "known"] (spOfW K 0) := by
  obtain ⟨f, fd, F, b, m⟩ := D.ex
  refine ⟨f, fd, F.ok sc__law_of_weight (fun vs H Q E h => ?_) (fun cdv A outer s H vs Q E hr h => ?_), b, F.kp, m⟩
  · obtain ⟨N, r, ar, kd, rws, T, i, rfl, _⟩ := h
    rfl
  · obtain ⟨N, r, ar, kd, rws, T, i, rfl, _, _, _, h1, h2, _⟩ := h
    exact absurd h1 (by omega)
theorem ok_of_weightS (G : Glob K mg) (D : Def K mg "_law_of_weight" st__law_of_weight ["rows", "arities", "weight", "known"]) {w_ j : Nat} (c__law_rows_of : Callee P w K mg base j "_law_rows_of" ["rows", "arities", "many", "weight", "known"] (spRowsOf K w_ 2)) : Callee P w K mg base (j + 1) "_law_of_weight" ["rows", "arities", "weight", "known"] (spOfW K (w_ + 1)) := by
  obtain ⟨f, fd, F, b, m⟩ := D.ex
  have z_dict := G.dict
  refine ⟨f, fd, F.ok sc__law_of_weight (fun vs H Q E h => ?_) (fun cdv A outer s H vs Q E hr h => ?_), b, F.kp, m⟩
  · obtain ⟨N, r, ar, kd, rws, T, i, rfl, _⟩ := h
    rfl
  · obtain ⟨N, r, ar, kd, rws, T, i, rfl, FL, TK, EV, hi1, hi2, hw4, k⟩ := h
    have hr__law_rows_of := hr
    have hu := hu_of hr
    refine ⟨_, (pss_cons (ps_if (pt_cmp (pc_dnotin hu (pv 2) (pv 3))) (pss_cons (ps_set (i := 4) sc__law_of_weight.nd rfl (Or.inl rfl) (pe_lst pa_nil)) (pss_cons (ps_for PassesOwn.never rfl (pi_list (pv 1)) (pg_tup rfl (pgs_cons (pg_name (i := 5) sc__law_of_weight.nd rfl (Or.inr rfl)) (pgs_cons (pg_name (i := 6) sc__law_of_weight.nd rfl (Or.inl rfl)) pgs_nil))) (pss_cons (ps_set (i := 7) sc__law_of_weight.nd rfl (Or.inl rfl) (pe_op op_sub (pv 2) (pe_dget hu (pe_callTy (call_dictP rfl) rfl z_dict boot_dict (pa_cons (pv 0) pa_nil)) (pv 5) (fun _ _ => rfl)))) (pss_one (ps_expr (pe_bm PySem.F.plainAttrs_list PySem.F.slot_list_extend PySem.F.type_list_extend mt_extend (pv 4) (pa_cons (pe_lc (own := [("row", 8)]) (g := (gName 8)) (tt := tYes) rfl sc__law_of_weight.nd (pi_list (pe_own c__law_rows_of hr__law_rows_of rfl (pa_cons (pv 0) (pa_cons (pv 1) (pa_cons (pv 6) (pa_cons (pv 7) (pa_cons (pv 3) pa_nil))))))) (blkOk_by (N := ["rows", "arities", "weight", "known", "found", "name", "many", "left", "row"]) (sc := defScope st__law_of_weight) (by decide +kernel)) (fun _ _ _ _ _ => (pg_name (i := 8) sc__law_of_weight.nd rfl (Or.inl rfl))) (fun _ _ _ _ _ => pts_nil) (fun _ _ _ _ _ => (pe_op (show OpR _ _ (rCatA K) from op_catA) (pe_tup (pa_cons (pv 5) pa_nil)) (pv 8)))) pa_nil)))))) (pss_one (ps_dput hu (pv 3) (pv 2) (pv 4) rfl)))) pss_nil) (pss_one (ps_ret (pe_dget hu (pv 3) (pv 2) (fun _ _ => rfl))))), ?_⟩
    -- the way out: the weight is known
    have fin : ∀ H' (D : Ends), D.rt = Q → EnvAt K N H' r ar kd rws T → Kept (one kd) H H' → (∃ kvs v, H' kd = some (.dK kvs) ∧ valV kvs (.inl i) = some v) → ∀ u4 u5 u6 u7 u8, (tRet (tDGet (tVar 3) (tVar 2))) D [some r, some ar, some (.int i), some (.ref kd), u4, u5, u6, u7, u8] H' := by
      intro H' D hD E kp ⟨kvs, v, h1, h2⟩ u4 u5 u6 u7 u8
      walk_at "rd"
      obtain ⟨kvs', a1, a2, a3, a4⟩ := E.kn.ex
      rw [a1] at h1
      cases h1
      obtain ⟨l, ys, rfl, b1, b2⟩ := a4 i v h2
      have dg := DGet.k (k := Sum.inl i) a1
      rw [h2] at dg
      refine ⟨_, rfl, _, rfl, kd, _, rfl, dg, ?_⟩
      rw [hD]
      exact k H' l ys E kp b1 b2
    obtain ⟨kvs0, a1, a2, a3, a4⟩ := EV.kn.ex
    refine q_seq (fun σ' H' => ∃ u4 u5 u6 u7 u8, σ' = [some r, some ar, some (.int i), some (.ref kd), u4, u5, u6, u7, u8] ∧ EnvAt K N H' r ar kd rws T ∧ Kept (one kd) H H' ∧ ∃ kvs v, H' kd = some (.dK kvs) ∧ valV kvs (.inl i) = some v) (fun Z z => ?_) (fun σ1 H1 hp1 => ?_)
    · refine if_t (!(valV kvs0 (.inl i)).isSome) (fun Q1 q1 => ?_) (fun hb H1 e1 => ?_) (fun hb H1 e1 => ?_)
      · walk_at "rd"
        exact ⟨_, rfl, _, rfl, kd, _, rfl, DGet.k (k := Sum.inl i) a1, _, rfl, q1 _ (Same.refl _)⟩
      · have hno : valV kvs0 (.inl i) = none := by
          cases q : valV kvs0 (.inl i) with
          | none => rfl
          | some v => rw [q] at hb; cases hb
        refine q_seq (fun σ' H' => ∃ p, σ' = [some r, some ar, some (.int i), some (.ref kd), some (.ref p), none, none, none, none] ∧ H p = none ∧ Same H H' ∧ H' p = some (.lst [])) (fun Z z => ?_) (fun σ2 H2 hp2 => ?_)
        · walk_at "rd"
          exact ⟨by decide, fun p hp => z _ _ ⟨p, rfl, none_of_none e1 hp, e1.trans (same_new hp _), upd_same⟩⟩
        obtain ⟨p, rfl, hp0, s2, hp2⟩ := hp2
        have EV2 := EV.new hp0 s2 hp2
        have npk : p ≠ kd := fun q => by subst q; rw [hp0] at a1; cases a1
        have sub1 : ∀ a, one kd a → two kd p a := fun a h => .inl h
        have sub2 : ∀ a, two kd p a → plus N p a := fun a h => h.elim (fun h => .inr (by rw [h]; exact EV.nk)) fun h => .inl h
        refine q_seq (fun σ' H' => ∃ u5 u6 u7 ys, σ' = [some r, some ar, some (.int i), some (.ref kd), some (.ref p), u5, u6, u7, none] ∧ EnvAt K (plus N p) H' r ar kd rws T ∧ Kept (two kd p) H2 H' ∧ H' p = some (.lst ys) ∧ ys.length ≤ 1000000 ∧ DpAll K (hide (plus N p) H') ys ((ofT (wtOf rws) T i).map W.dat)) (fun Z2 z2 => ?_) (fun σ3 H3 hp3 => ?_)
        · refine rd_for ?_
          obtain ⟨la, xs, rfl, hla, dxs⟩ := list_at EV2.ad
          obtain ⟨lr, xr, rfl, hlr, dxr⟩ := list_at EV2.rd
          obtain ⟨ps, rfl, hps⟩ := rows_addr dxr
          have lxs : xs.length = ars.length := by have := DpAll.length dxs; unfold arD at this; rw [List.length_map] at this; exact this
          have keep : ∀ H', Kept (two kd p) H2 H' → Same (hide (plus N p) H2) (hide (plus N p) H') := fun H' k => k.sub sub2
          walk_at "rd"
          refine ⟨_, rfl, la, rfl, ⟨xs, hide_same.seq hla⟩, ?_⟩
          refine forq (sp_list (K := K) (xs := xs)) (fun j σ' H' => ∃ u5 u6 u7 ys, σ' = [some (.ref lr), some (.ref la), some (.int i), some (.ref kd), some (.ref p), u5, u6, u7, none] ∧ EnvAt K (plus N p) H' (.ref lr) (.ref la) kd rws T ∧ Kept (two kd p) H2 H' ∧ H' p = some (.lst ys) ∧ ys.length ≤ 1000 * j ∧ DpAll K (hide (plus N p) H') ys (((ars.take j).flatMap fun q => (rowsT T q.many (i - wtOf rws q.nm)).map q.con).map W.dat)) ⟨_, _, _, [], rfl, EV2, Kept.refl _, hp2, Nat.zero_le _, .nil⟩ (fun j σ' H' q => ?_) (fun j v σ' H0' H' hj q e hr' => ?_) (fun σ' H' q => ?_)
          · obtain ⟨_, _, _, _, _, _, kk, _⟩ := q
            exact hide_same.seq ((keep _ kk).seq hla)
          · obtain ⟨u5, u6, u7, ys, rfl, E3, k3, hp3, ly3, d3⟩ := q
            obtain ⟨hv, rfl⟩ := hr'
            obtain ⟨dd, hd1, hd2⟩ := DpAll.get (DpAll.same (keep _ k3) dxs) hv
            have hq : ∃ q, ars[j]? = some q := ⟨_, List.getElem?_eq_getElem (by omega)⟩
            obtain ⟨q, hq⟩ := hq
            unfold arD at hd1
            rw [List.getElem?_map, hq] at hd1
            cases (Option.some.inj hd1)
            have hqm : q ∈ ars := List.mem_of_getElem? hq
            have hw12 := TK.wts q hqm
            have hmany : q.many ≤ 2 := (by decide : ∀ q ∈ ars, q.many ≤ 2) q hqm
            obtain ⟨xq, hxq⟩ := wt_of_row FL q hqm
            cases hd2 with
            | @tup Ta us _ hTa dus =>
            cases dus with
            | @cons t1 _ us _ dt1 dus =>
            cases dus with
            | @cons t2 _ us _ dt2 dus =>
            cases dus
            cases dt1
            cases dt2
            refine g_pairS (Same.tupL hide_same hTa) rfl ?_
            refine q_seq (fun σ' H4 => σ' = [some (.ref lr), some (.ref la), some (.int i), some (.ref kd), some (.ref p), some (.str q.nm), some (.int (q.many : Nat)), some (.int (i - wtOf rws q.nm)), none] ∧ Same H' H4) (fun Z1 z1 => ?_) (fun σ4 H4 hp4 => ?_)
            · walk_at "rd"
              refine ⟨_, rfl, _, rfl, lr, ps, kws rws, rfl, hide_same.seq ((keep _ k3).seq hlr), paired_imp (fun _ _ q => Same.tupL hide_same (Same.tupL (keep _ k3) q)) hps, fun dp hdp => ?_⟩
              rw [mergeK_rows FL.ok]
              obtain ⟨d9, kw9, h91, h92, h93⟩ := FL.wtAt (H := upd H' dp (.dK (kws rws))) upd_same
              cases h91
              have dg := DGet.k (k := Sum.inr xq.nm) h92
              rw [h93, hxq] at dg
              exact ⟨_, rfl, dp, _, rfl, dg, _, _, rfl, rfl, z1 _ _ ⟨rfl, same_new hdp _⟩⟩
            obtain ⟨rfl, e4⟩ := hp4
            have E4 := E3.same e4
            have hp4 := e4 _ _ hp3
            walk_at "rd"
            refine ⟨_, rfl, .inl ⟨rfl, _, .inl (.inl hp4)⟩, ?_⟩
            refine rd_lc ?_
            walk_at "rd"
            refine ⟨_, rfl, _, rfl, _, rfl, _, rfl, _, rfl, plus N p, _, _, kd, rws, T, q.many, i - wtOf rws q.nm, rfl, FL, TK, E4, hmany, Nat.le_refl _, by omega, by omega, by omega, fun H6 l6 ys6 E6 k6 hl60 hl6 d6 => ?_⟩
            have hp6 : H6 p = some (.lst ys) := k6.at (show ¬ one kd p from npk) hp4
            have lR := TK.rlen q.many hmany (i - wtOf rws q.nm) (by omega) (by omega)
            have ly6 : ys6.length = (rowsT T q.many (i - wtOf rws q.nm)).length := by have := DpAll.length d6; unfold rowsP at this; rw [List.length_map] at this; exact this
            refine ⟨l6, rfl, ⟨_, .inl (.inl hl6)⟩, ?_⟩
            refine lcp (K := K) (N := plus N p) E6.tr (src_list (.inl (.inl hl6))) (by omega) (fun _ => true) (fun n => (fun r : List W => PyData.tuple (.str q.nm :: r.map W.dat)) ((rowsT T q.many (i - wtOf rws q.nm)).getD n [])) (fun n y H7 N7 Q2 Q3 hn e7 r7 tr7 hs7 q2 q3 => ?_) (fun Dl H7 ys7 nD e7 hy7 da => ?_)
            · obtain ⟨d7, hd7, hy7⟩ := DpAll.get (DpAll.same hs7 d6) r7
              have hrw : ∃ rw', (rowsT T q.many (i - wtOf rws q.nm))[n]? = some rw' := ⟨_, List.getElem?_eq_getElem (by omega)⟩
              obtain ⟨rw', hrw⟩ := hrw
              unfold rowsP at hd7
              rw [List.getElem?_map, hrw] at hd7
              cases (Option.some.inj hd7)
              cases hy7 with
              | @tup Ta us _ hTa dus =>
              have hsz : us.length ≤ 2 := by
                have h1 := DpAll.length dus
                rw [List.length_map] at h1
                have h2 := rowsT_len T q.many _ rw' (List.mem_of_getElem? hrw)
                omega
              walk_at "rd"
              refine ⟨rfl, iteT ?_⟩
              refine ⟨_, rfl, by decide, fun p7 hp7 => ⟨_, rfl, ?_⟩⟩
              have e8 := same_new hp7 (.tup [.str q.nm])
              have n7 : ¬ N7 p7 := tr7.off hp7
              have edat : (fun r : List W => PyData.tuple (.str q.nm :: r.map W.dat)) ((rowsT T q.many (i - wtOf rws q.nm)).getD n []) = .tuple (.str q.nm :: rw'.map W.dat) := by
                rw [List.getD_eq_getElem?_getD, hrw]
                rfl
              refine ⟨p7, Ta, [.str q.nm], us, rfl, rfl, .inl (.inl upd_same), Same.tupL e8 (Same.tupL hide_same hTa), ?_, fun z => (nomatch z), fun _ hus => ?_, fun _ _ p8 hp8 => ?_⟩
              · exact Nat.le_trans (show 1 + us.length ≤ 3 by omega) (by decide)
              · subst hus
                refine q2 _ _ e8 rfl ?_
                rw [edat]
                cases hrd : rw'.map W.dat with
                | nil => exact .tup (.inl (.inl ((hide_off n7).trans upd_same))) (.cons (.str _) .nil)
                | cons _ _ => rw [hrd] at dus; cases dus
              · have e9 := same_new hp8 (.tup ([.str q.nm] ++ us))
                have n8 : ¬ N7 p8 := (tr7.same e8).off hp8
                refine q2 _ _ (e8.trans e9) rfl ?_
                rw [edat]
                exact .tup (.inl (.inl ((hide_off n8).trans upd_same))) (.cons (.str _) (DpAll.same (hide_mono (e8.trans e9)) dus))
            · have da2 : DpAll K (hide (plus N p) H7) ys7 (((rowsT T q.many (i - wtOf rws q.nm)).map q.con).map W.dat) := by
                have := map_range (rowsT T q.many (i - wtOf rws q.nm)) (fun r : List W => PyData.tuple (.str q.nm :: r.map W.dat)) []
                rw [ly6, this] at da
                rw [List.map_map]
                have e : (rowsT T q.many (i - wtOf rws q.nm)).map (W.dat ∘ q.con) = (rowsT T q.many (i - wtOf rws q.nm)).map (fun r : List W => PyData.tuple (.str q.nm :: r.map W.dat)) := List.map_congr_left fun r hr => mk_dat hqm (rowsT_len T _ _ r hr)
                rw [e]
                exact da
              have hp7 := e7 _ _ hp6
              have ly7 : ys7.length ≤ 1000 := by
                have := DpAll.length da2
                rw [List.length_map, List.length_map] at this
                omega
              have E7 := E6.same e7
              have lars : ars.length = 4 := rfl
              refine ⟨p, Dl, ys, ys7, rfl, rfl, hp7, hy7, ?_, ?_⟩
              · exact Nat.le_trans (show ys.length + ys7.length ≤ 5000000 by omega) (by decide)
              · refine ⟨_, _, _, ys ++ ys7, rfl, E7.upd (.inl rfl) npk, ?_, upd_same, by rw [List.length_append]; omega, ?_⟩
                · exact (((k3.trans (Kept.of e4)).trans (k6.sub sub1)).trans (Kept.of e7)).upd (.inr rfl)
                · rw [plus_in, take_snoc hq, List.flatMap_append, List.map_append]
                  have d7 : DpAll K (hide (plus N p) H7) ys _ := DpAll.same (((Kept.of (N := plus N p) e4).trans (k6.sub fun a h => sub2 a (sub1 a h))).trans (Kept.of e7)) d3
                  have := DpAll.app d7 da2
                  simpa using this
          · obtain ⟨u5, u6, u7, ys, rfl, E3, k3, hp3, ly3, d3⟩ := q
            rw [lxs, List.take_length] at d3
            have lars : ars.length = 4 := rfl
            exact z2 _ _ ⟨_, _, _, ys, rfl, E3, k3, hp3, by omega, d3⟩
        obtain ⟨u5, u6, u7, ys, rfl, E3, k3, hp3, ly3, d3⟩ := hp3
        rw [← TK.fix i hi1 (by omega)] at d3
        walk_at "rd"
        obtain ⟨kvs3, b1, b2, b3, b4⟩ := E3.kn.ex
        have hl3 : kvs3.length ≤ 4 := by
          have := nodup_le b2 (fun x hx => by obtain ⟨p', hp', rfl⟩ := List.mem_map.mp hx; exact b3 p' hp')
          rw [List.length_map] at this
          exact this
        refine ⟨_, rfl, _, rfl, _, rfl, kd, _, rfl, DPut.k (k := Sum.inl i) b1 (Nat.lt_of_le_of_lt hl3 (by decide)), ?_⟩
        have hq := z
        have nkN : ¬ N p := EV.tr.off hp0
        have trN : Tr N H3 := fun a h => E3.tr a (.inr h)
        have E3' := E3.down trN EV.nk
        have hv3 : valV kvs3 (.inl i) = none ∨ True := .inr trivial
        refine z _ _ ⟨_, _, _, _, _, rfl, ⟨tr_upd trN, EV.nk, by rw [hide_in EV.nk]; exact E3'.rd, by rw [hide_in EV.nk]; exact E3'.ad, ⟨putK kvs3 (Sum.inl i) (V.ref p), upd_same, ?_, ?_, ?_⟩⟩, ?_, putK kvs3 (Sum.inl i) (V.ref p), .ref p, upd_same, by rw [valV_put, if_pos rfl]⟩
        · unfold putK
          by_cases ha : (kvs3.any fun kv => decide (kv.1 = (Sum.inl i : Key))) = true
          · rw [if_pos ha, List.map_map]
            have : ((fun (x : Key × V) => x.1) ∘ fun kv : Key × V => if kv.1 = (Sum.inl i : Key) then (kv.1, V.ref p) else kv) = fun x => x.1 := funext fun kv => by
              show (if kv.1 = (Sum.inl i : Key) then (kv.1, V.ref p) else kv).1 = kv.1
              split <;> rfl
            rw [this]
            exact b2
          · rw [if_neg ha, List.map_append]
            refine nodup_snoc b2 fun q => ha ?_
            obtain ⟨kv, h1, h2⟩ := List.mem_map.mp q
            exact List.any_eq_true.mpr ⟨kv, h1, decide_eq_true h2⟩
        · intro q hq
          unfold putK at hq
          by_cases ha : (kvs3.any fun kv => decide (kv.1 = (Sum.inl i : Key))) = true
          · rw [if_pos ha] at hq
            obtain ⟨kv, h1, rfl⟩ := List.mem_map.mp hq
            have := b3 kv h1
            split <;> exact this
          · rw [if_neg ha] at hq
            rcases List.mem_append.mp hq with hq | hq
            · exact b3 q hq
            · rw [List.mem_singleton] at hq
              subst hq
              exact key14 hi1 (by omega)
        · intro i' v' hv'
          rw [hide_in EV.nk]
          rw [valV_put] at hv'
          by_cases ei : (Sum.inl i' : Key) = Sum.inl i
          · rw [if_pos ei] at hv'
            cases (Sum.inl.inj ei)
            cases (Option.some.inj hv')
            exact ⟨p, ys, rfl, (hide_off nkN).trans hp3, DpAll.same plus_down d3⟩
          · rw [if_neg ei] at hv'
            obtain ⟨l, ys', h1, h2, h3⟩ := b4 i' v' hv'
            exact ⟨l, ys', h1, plus_down _ _ h2, DpAll.same plus_down h3⟩
        · intro a o q
          obtain ⟨n1, q⟩ := hide_some q
          rw [hide_off n1, upd_ne (show a ≠ kd from n1)]
          have n2 : ¬ two kd p a := fun h => h.elim n1 fun z => by subst z; rw [hp0] at q; cases q
          exact k3.at n2 (s2 _ _ q)
      · refine z _ _ ⟨_, _, _, _, _, rfl, EV.same e1, Kept.of e1, kvs0, ?_⟩
        cases q : valV kvs0 (.inl i) with
        | none => rw [q] at hb; cases hb
        | some v => exact ⟨v, e1 _ _ a1, rfl⟩
    obtain ⟨u4, u5, u6, u7, u8, rfl, E1, k1, hk⟩ := hp1
    exact fin H1 _ rfl E1 k1 hk u4 u5 u6 u7 u8
end
end K29

-- text: LawS
set_option linter.all false
set_option maxRecDepth 100000
set_option maxHeartbeats 4000000
/-! sorting words: plain Lean -/
namespace K29
open PySem PySem.Spec
section
variable (wt : Str → Int) (rk : Str → Nat)
def insW (x : W) (l : List W) : List W := l.take (l.filter fun o => W.abv wt rk x o).length ++ [x] ++ l.drop (l.filter fun o => W.abv wt rk x o).length
def srtW (ws : List W) : List W := ws.foldl (fun l x => insW wt rk x l) []
/-- from the lowest -/
abbrev Up (l : List W) : Prop := l.Pairwise fun x y => W.abv wt rk y x = true
theorem abv_asym (inj : W.Inj rk) {x y : W} (h : W.abv wt rk x y = true) : W.abv wt rk y x = false := by
  by_cases e : x = y
  · subst e; exact W.abv_irr wt rk x
  · have := W.abv_tri wt rk inj x y e
    rw [h] at this
    cases q : W.abv wt rk y x with
    | false => rfl
    | true => rw [q] at this; cases this
theorem ins_cons_pos {x o : W} {l : List W} (h : W.abv wt rk x o = true) : insW wt rk x (o :: l) = o :: insW wt rk x l := by
  unfold insW
  rw [List.filter_cons_of_pos h, List.length_cons, List.take_succ_cons, List.drop_succ_cons]
  rfl
theorem ins_none {x : W} {l : List W} (h : ∀ o ∈ l, W.abv wt rk x o = false) : insW wt rk x l = x :: l := by
  unfold insW
  rw [List.filter_eq_nil_iff.mpr (fun o ho => by rw [h o ho]; exact Bool.false_ne_true)]
  rfl
theorem ins_up (inj : W.Inj rk) {x : W} : ∀ {l : List W}, Up wt rk l → x ∉ l → Up wt rk (insW wt rk x l) ∧ (insW wt rk x l).Perm (x :: l)
  | [], _, _ => by
    rw [ins_none wt rk (fun o h => by cases h)]
    exact ⟨List.pairwise_singleton _ _, List.Perm.refl _⟩
  | o :: l, h, hx => by
    have ho : x ≠ o := fun q => hx (by rw [q]; exact List.mem_cons_self ..)
    have hl : x ∉ l := fun q => hx (List.mem_cons_of_mem _ q)
    obtain ⟨h1, h2⟩ := List.pairwise_cons.mp h
    cases q : W.abv wt rk x o with
    | true =>
      obtain ⟨i1, i2⟩ := ins_up inj h2 hl
      rw [ins_cons_pos wt rk q]
      refine ⟨List.pairwise_cons.mpr ⟨fun y hy => ?_, i1⟩, (List.Perm.cons _ i2).trans (List.Perm.swap _ _ _)⟩
      rcases List.mem_cons.mp (i2.mem_iff.mp hy) with rfl | hy
      · exact q
      · exact h1 y hy
    | false =>
      have qo : W.abv wt rk o x = true := by
        have := W.abv_tri wt rk inj o x (Ne.symm ho)
        rw [q] at this
        exact this
      have hall : ∀ y ∈ l, W.abv wt rk y x = true := fun y hy => W.abv_trans wt rk inj _ _ _ (h1 y hy) qo
      rw [ins_none wt rk (fun y hy => ?_)]
      · refine ⟨List.pairwise_cons.mpr ⟨fun y hy => ?_, h⟩, List.Perm.refl _⟩
        rcases List.mem_cons.mp hy with rfl | hy
        · exact qo
        · exact hall y hy
      · rcases List.mem_cons.mp hy with rfl | hy
        · exact q
        · exact abv_asym wt rk inj (hall y hy)
theorem srt_aux (inj : W.Inj rk) : ∀ (ws l : List W), Up wt rk l → (l ++ ws).Nodup → Up wt rk (ws.foldl (fun l x => insW wt rk x l) l) ∧ (ws.foldl (fun l x => insW wt rk x l) l).Perm (l ++ ws)
  | [], l, h, _ => ⟨h, by rw [List.append_nil]; exact List.Perm.refl _⟩
  | x :: ws, l, h, hn => by
    have hx : x ∉ l := fun q => by
      have := (List.nodup_append.mp hn).2.2 x q x (List.mem_cons_self ..)
      exact this rfl
    obtain ⟨i1, i2⟩ := ins_up wt rk inj h hx
    have p : (insW wt rk x l ++ ws).Perm (l ++ x :: ws) := (i2.append_right ws).trans (List.perm_middle.symm)
    obtain ⟨j1, j2⟩ := srt_aux inj ws (insW wt rk x l) i1 (p.nodup_iff.mpr hn)
    exact ⟨j1, j2.trans p⟩
theorem srt_up (inj : W.Inj rk) {ws : List W} (h : ws.Nodup) : Up wt rk (srtW wt rk ws) ∧ (srtW wt rk ws).Perm ws := srt_aux wt rk inj ws [] List.Pairwise.nil h
/-- what is below the r-th of a sorted list -/
theorem below_take (inj : W.Inj rk) {l : List W} (h : Up wt rk l) {r : Nat} {x : W} (hx : l[r]? = some x) : (l.filter fun o => W.abv wt rk x o) = l.take r := by
  induction l generalizing r with
  | nil => simp at hx
  | cons o l ih =>
    obtain ⟨h1, h2⟩ := List.pairwise_cons.mp h
    cases r with
    | zero =>
      have e := Option.some.inj (show some o = some x from hx)
      subst e
      rw [List.take_zero]
      refine List.filter_eq_nil_iff.mpr fun y hy => ?_
      rcases List.mem_cons.mp hy with rfl | hy
      · rw [W.abv_irr]; exact Bool.false_ne_true
      · rw [abv_asym wt rk inj (h1 y hy)]; exact Bool.false_ne_true
    | succ r =>
      have hx' : l[r]? = some x := by simpa using hx
      rw [List.filter_cons_of_pos (h1 x (List.mem_of_getElem? hx')), List.take_succ_cons, ih h2 hx']
theorem up_at {l : List W} (h : Up wt rk l) {i j : Nat} {x y : W} (hi : l[i]? = some x) (hj : l[j]? = some y) (l1 : i < j) : W.abv wt rk y x = true := by
  obtain ⟨h1, e1⟩ := List.getElem?_eq_some_iff.mp hi
  obtain ⟨h2, e2⟩ := List.getElem?_eq_some_iff.mp hj
  have := List.pairwise_iff_getElem.mp h i j h1 h2 l1
  rw [e1, e2] at this
  exact this
end
theorem cmp_above (wt : Str → Int) (rk : Str → Nat) (x y : W) : decide (W.cmp wt rk x y = ("above" : Str)) = W.abv wt rk x y := by
  unfold W.cmp
  by_cases e : x = y
  · subst e
    rw [if_pos rfl, W.abv_irr]
    decide +kernel
  · rw [if_neg e]
    cases q : W.abv wt rk x y with
    | true => rw [if_pos rfl]; decide +kernel
    | false =>
      rw [if_neg Bool.false_ne_true]
      split <;> decide +kernel
theorem words_shaped {ws : List W} {n : Nat} (h : ∀ x ∈ ws, x.ht ≤ n) (hn : n ≤ 50) : SeqAt.shaped (.list (ws.map W.dat)) = true := by
  have h1 : ∀ ws : List W, PyData.canLayAll0 (ws.map W.dat) = true := fun ws => by
    induction ws with
    | nil => rfl
    | cons x r ih => simp [PyData.canLayAll0, W.lay_dat, ih]
  have h2 : ∀ ws : List W, (∀ x ∈ ws, x.ht ≤ n) → PyData.depthAll (ws.map W.dat) ≤ n + 2 := fun ws => by
    induction ws with
    | nil => intro _; simp [PyData.depthAll]
    | cons x r ih =>
      intro h
      have a := h x (List.mem_cons_self ..)
      have b := ih fun y hy => h y (List.mem_cons_of_mem _ hy)
      simp only [List.map_cons, PyData.depthAll, W.depth_dat]
      omega
  show (PyData.canLay0 (.list (ws.map W.dat)) && decide (PyData.depth (.list (ws.map W.dat)) ≤ 64)) = true
  have h3 := h2 ws h
  have e1 : PyData.canLay0 (.list (ws.map W.dat)) = true := by simp [PyData.canLay0, h1]
  rw [e1, Bool.true_and]
  refine decide_eq_true ?_
  simp only [PyData.depth]
  omega
theorem eqv_nil (ws : List W) : PyData.eqv (.list (ws.map W.dat)) (.list []) = ws.isEmpty := by
  cases ws <;> simp [PyData.eqv, PyData.eqvAll]
end K29

-- text: Law6
set_option linter.all false
set_option maxRecDepth 100000
set_option maxHeartbeats 4000000
namespace K29
open PySem PySem.Spec PyProof.Rows L2 DB
local macro_rules | `(tactic| walk_at "rd") => `(tactic| (dsimp only [cxOf, Cx.nox, L2.start, tRet, tRetN, tCB, tCons, tNil, tC, tVar, tTup, tLst, tB, tTest, tAnd, tOr, tNot, tAndV, tOrV, tNotV, tIfS, tIf, tSeq, tNext, tDrop, tOp, tUn, tAsg, gName, gSub, tSl, tPart, tNoPart, tCall, tPar, tBM, tChain, tYes, StX.tStar, tFld, tNotN, tIsN, tDNotIn, tDIn, tDGet, tDGet2, tDNewK, List.length_cons, List.length_nil, List.set_cons_zero, List.set_cons_succ, List.nil_append, List.cons_append, List.append_nil, gTup, gCons, gNil, tLockE, iKeys, XR.iZipTN, sFld, sDPut, iEnum, XR.iEnumK, XR.iEnumT, iList, RZ.iZipA, iTup, iRng1, iRng2]))
section
variable {P : Program} {w : World} {K : PySem.W.Frag} {mg : Str → Option Value} {base : Heap}
abbrev st__law_sorted : Stmt := top 40
theorem sc__law_sorted : FnScope ["rows", "words", "found", "word", "at", "one"] ["rows", "words"] (defScope st__law_sorted) := ⟨rfl, rfl, rfl, by decide +kernel, rfl, by decide +kernel, by decide +kernel⟩

/-- a list of words, N apart -/
structure WordsAt (K : PySem.W.Frag) (N : Addr → Prop) (H : Hp) (l : Addr) (ws : List W) : Prop where
  ex : ∃ ys : List V, hide N H l = some (.lst ys) ∧ DpAll K (hide N H) ys (ws.map W.dat)
theorem WordsAt.to {K : PySem.W.Frag} {N M : Addr → Prop} {H H' : Hp} {l : Addr} {ws : List W} (h : WordsAt K N H l ws) (e : Same (hide N H) (hide M H')) : WordsAt K M H' l ws := by
  obtain ⟨ys, a, b⟩ := h.ex
  exact ⟨ys, e _ _ a, DpAll.same e b⟩
/-- small words -/
def Small (n : Nat) (ws : List W) : Prop := ∀ x ∈ ws, x.ht < n ∧ x.sz ≤ 1000
def spSorted (K : PySem.W.Frag) (n : Nat) : Sp := fun vs H Q _ => ∃ N r l rws ws, vs = [r, .ref l] ∧ Tr N H ∧ Full rws ∧ Dp K (hide N H) r (.list (rowsD rws)) ∧ WordsAt K N H l ws ∧ Small n ws ∧ ws.length ≤ 1000 ∧ ∀ H' D, Same H H' → H D = none → WordsAt K N H' D (srtW (wtOf rws) (rkOf rws) ws) → Q (.ref D) H'
theorem ins_small {wt : Str → Int} {rk : Str → Nat} {n : Nat} {x : W} {l : List W} (h : Small n l) (hx : x.ht < n ∧ x.sz ≤ 1000) : Small n (insW wt rk x l) := fun y hy => by
  unfold insW at hy
  rcases List.mem_append.mp hy with hy | hy
  · rcases List.mem_append.mp hy with hy | hy
    · exact h y (List.mem_of_mem_take hy)
    · rw [List.mem_singleton] at hy
      subst hy
      exact hx
  · exact h y (List.mem_of_mem_drop hy)
theorem ins_len {wt : Str → Int} {rk : Str → Nat} {x : W} {l : List W} : (insW wt rk x l).length = l.length + 1 := by
  unfold insW
  rw [List.length_append, List.length_append, List.length_take, List.length_drop, List.length_singleton]
  have := List.length_filter_le (fun o => W.abv wt rk x o) l
  omega
theorem DpAll.take' {K : PySem.W.Frag} {h : Hp} : ∀ {ys : List V} {ds : List PyData} (n : Nat), DpAll K h ys ds → DpAll K h (ys.take n) (ds.take n)
  | _, _, 0, _ => .nil
  | _, _, n + 1, .nil => .nil
  | _, _, n + 1, .cons q a => .cons q (DpAll.take' n a)
theorem filter_range_map {α β : Type} (l : List α) (f : α → Bool) (g : α → β) (d : α) : ((List.range l.length).filter fun i => f (l.getD i d)).map (fun i => g (l.getD i d)) = (l.filter f).map g := by
  have h : l = (List.range l.length).map fun i => l.getD i d := by
    apply List.ext_getElem
    · simp
    · intro i h1 h2
      simp [List.getD, h1]
  conv => rhs; rw [h, List.filter_map, List.map_map]
  rfl
theorem filter_range {α : Type} (l : List α) (f : α → Bool) (d : α) : ((List.range l.length).filter fun i => f (l.getD i d)).length = (l.filter f).length := by
  have h : l = (List.range l.length).map fun i => l.getD i d := by
    apply List.ext_getElem
    · simp
    · intro i h1 h2
      simp [List.getD, h1]
  conv => rhs; rw [h, List.filter_map, List.length_map]
  rfl
theorem ok_sorted (G : Glob K mg) (D : Def K mg "_law_sorted" st__law_sorted ["rows", "words"]) {n j : Nat} (c__law_d_above : Callee P w K mg base j "_law_d_above" ["rows", "one", "other"] (spDAbove K n)) : Callee P w K mg base (j + 1) "_law_sorted" ["rows", "words"] (spSorted K n) := by
  obtain ⟨f, fd, F, b, m⟩ := D.ex
  have z_len := G.len
  refine ⟨f, fd, F.ok sc__law_sorted (fun vs H Q E h => ?_) (fun cdv A outer s H vs Q E hr h => ?_), b, F.kp, m⟩
  · obtain ⟨N, r, l, rws, ws, rfl, _⟩ := h
    rfl
  · obtain ⟨N, r, l, rws, ws, rfl, hN, FL, hrd, hws, sm, hl, k⟩ := h
    have hr__law_d_above := hr
    refine ⟨_, (pss_cons (ps_set (i := 2) sc__law_sorted.nd rfl (Or.inl rfl) (pe_lst pa_nil)) (pss_cons (ps_for PassesOwn.never rfl (pi_list (pv 1)) (pg_name (i := 3) sc__law_sorted.nd rfl (Or.inr rfl)) (pss_cons (ps_set (i := 4) sc__law_sorted.nd rfl (Or.inl rfl) (pe_callB call_len_seq rfl z_len PySem.boot_len (pa_cons (pe_lc (own := [("one", 5)]) (g := (gName 5)) rfl sc__law_sorted.nd (pi_list (pv 2)) (blkOk_by (N := ["rows", "words", "found", "word", "at", "one"]) (sc := defScope st__law_sorted) (by decide +kernel)) (fun _ _ _ _ _ => (pg_name (i := 5) sc__law_sorted.nd rfl (Or.inl rfl))) (fun _ _ _ _ _ => (pts_one (pt_val (pe_own c__law_d_above hr__law_d_above rfl (pa_cons (pv 0) (pa_cons (pv 3) (pa_cons (pv 5) pa_nil))))))) (fun _ _ _ _ _ => (pv 5))) pa_nil))) (pss_one (ps_expr (pe_bm PySem.F.plainAttrs_list PySem.F.slot_list_insert PySem.F.type_list_insert mt_insert (pv 2) (pa_cons (pv 4) (pa_cons (pv 3) pa_nil))))))) (pss_one (ps_ret (pv 2))))), ?_⟩
    generalize ewt : wtOf rws = wt at k
    generalize erk : rkOf rws = rk at k
    obtain ⟨xs, hxs, dxs⟩ := hws.ex
    have nl : ¬ N l := (hide_some hxs).1
    have lx : xs.length = ws.length := by have := DpAll.length dxs; rw [List.length_map] at this; exact this
    refine q_seq (fun σ' H' => ∃ p, σ' = [some r, some (.ref l), some (.ref p), none, none, none] ∧ H p = none ∧ H' = upd H p (.lst [])) (fun Z z => ?_) (fun σ1 H1 hp1 => ?_)
    · walk_at "rd"
      exact ⟨by decide, fun p hp => z _ _ ⟨p, rfl, hp, rfl⟩⟩
    obtain ⟨p, rfl, hp0, rfl⟩ := hp1
    have e1 := same_new hp0 (.lst [])
    refine q_seq (fun σ' H' => ∃ u3 u4 ys, σ' = [some r, some (.ref l), some (.ref p), u3, u4, none] ∧ Same H H' ∧ H' p = some (.lst ys) ∧ DpAll K (hide (plus N p) H') ys ((srtW wt rk ws).map W.dat)) (fun Z z => ?_) (fun σ2 H2 hp2 => ?_)
    · refine rd_for ?_
      walk_at "rd"
      refine ⟨_, rfl, l, rfl, ⟨xs, .inl (.inl (e1 _ _ (hide_some hxs).2))⟩, ?_⟩
      refine forq (sp_list (K := K) (xs := xs)) (fun i σ' H' => ∃ u3 u4 ys zs, σ' = [some r, some (.ref l), some (.ref p), u3, u4, none] ∧ Same H H' ∧ H' p = some (.lst ys) ∧ DpAll K (hide (plus N p) H') ys (zs.map W.dat) ∧ zs = (ws.take i).foldl (fun l x => insW wt rk x l) [] ∧ Small n zs ∧ zs.length = i) ⟨_, _, [], [], rfl, e1, upd_same, .nil, rfl, (fun _ h => nomatch h), rfl⟩ (fun i σ' H' q => ?_) (fun i v σ' H0' H' hi q e hr' => ?_) (fun σ' H' q => ?_)
      · obtain ⟨_, _, _, _, _, e, _⟩ := q
        exact .inl (.inl (e _ _ (hide_some hxs).2))
      · obtain ⟨u3, u4, ys, zs, rfl, s3, hp3, d3, ezs, smz, lz⟩ := q
        obtain ⟨hv, rfl⟩ := hr'
        have hxw : ∃ xw, ws[i]? = some xw := ⟨_, List.getElem?_eq_getElem (by omega)⟩
        obtain ⟨xw, hxw⟩ := hxw
        obtain ⟨dd, hd1, hd2⟩ := DpAll.get dxs hv
        rw [List.getElem?_map, hxw] at hd1
        cases (Option.some.inj hd1)
        have smx := sm xw (List.mem_of_getElem? hxw)
        have tr3 : Tr (plus N p) H' := plus_tr (hN.same s3) hp3
        have ly : ys.length = zs.length := by have := DpAll.length d3; rw [List.length_map] at this; exact this
        refine q_seq (fun σ' H4 => σ' = [some r, some (.ref l), some (.ref p), some v, some (.int (((zs.filter fun o => W.abv wt rk xw o).length : Nat) : Int)), none] ∧ Same H' H4) (fun Z1 z1 => ?_) (fun σ4 H4 hp4 => ?_)
        · walk_at "rd"
          refine rd_lc ?_
          walk_at "rd"
          refine ⟨_, rfl, p, rfl, ⟨_, .inl (.inl hp3)⟩, ?_⟩
          refine lcp (K := K) (N := plus N p) tr3 (src_list (.inl (.inl hp3))) (by omega) (fun q => W.abv wt rk xw (zs.getD q .a)) (fun q => (zs.getD q .a).dat) (fun q y H7 N7 Q2 Q3 hq e7 r7 tr7 hs7 q2 q3 => ?_) (fun Dl H7 ys7 nD e7 hy7 da => ?_)
          · obtain ⟨d7, hd7, hy7⟩ := DpAll.get (DpAll.same hs7 d3) r7
            have hz : ∃ zw, zs[q]? = some zw := ⟨_, List.getElem?_eq_getElem (by omega)⟩
            obtain ⟨zw, hz⟩ := hz
            rw [List.getElem?_map, hz] at hd7
            cases (Option.some.inj hd7)
            have eg : zs.getD q .a = zw := by rw [List.getD_eq_getElem?_getD, hz]; rfl
            have smw := smz zw (List.mem_of_getElem? hz)
            have s7 := s3.trans e7
            walk_at "rd"
            refine ⟨rfl, _, rfl, _, rfl, _, rfl, r, v, y, rws, xw, zw, rfl, FL, Dp.same s7 (Dp.same hide_same hrd), Dp.same s7 (Dp.same hide_same hd2), Dp.same hide_same hy7, smx.1, smw.1, smx.2, smw.2, fun H8 e8 => ⟨_, rfl, ?_⟩⟩
            rw [ewt, erk]
            refine ite_b (fun hb => ?_) (fun hb => ?_)
            · refine ⟨_, rfl, q2 _ _ e8 (by rw [eg]; exact hb) ?_⟩
              rw [eg]
              exact Dp.same (hide_mono e8) hy7
            · exact q3 _ e8 (by rw [eg]; exact hb)
          · refine ⟨Dl, ys7, rfl, .inl (.inl (.inl hy7)), ?_⟩
            have := DpAll.length da
            rw [List.length_map] at this
            have e9 : ys7.length = (zs.filter fun o => W.abv wt rk xw o).length := by
              rw [this, ly]
              exact filter_range zs (fun o => W.abv wt rk xw o) .a
            rw [e9]
            exact z1 _ _ ⟨rfl, e7⟩
        obtain ⟨rfl, e4⟩ := hp4
        have hp4 := e4 _ _ hp3
        walk_at "rd"
        refine ⟨_, rfl, .inl ⟨rfl, _, .inl (.inl hp4)⟩, _, rfl, _, rfl, ?_⟩
        have lf := List.length_filter_le (fun o => W.abv wt rk xw o) zs
        refine ⟨p, ys, _, v, rfl, rfl, hp4, Nat.lt_of_le_of_lt (show ys.length ≤ 1000 by omega) (by decide), by omega, by omega, ?_⟩
        refine ⟨_, _, _, insW wt rk xw zs, rfl, same_upd hp0 (s3.trans e4) _, upd_same, ?_, ?_, ins_small smz smx, by rw [ins_len, lz]⟩
        · rw [plus_in]
          have d4 := DpAll.same (hide_mono (N := plus N p) e4) d3
          have dv : Dp K (hide (plus N p) H4) v xw.dat := Dp.same (plus_same hp0 (s3.trans e4)) hd2
          rw [Int.toNat_natCast]
          unfold insW
          rw [List.map_append, List.map_append, List.map_take, List.map_drop]
          exact DpAll.app (DpAll.app (DpAll.take' _ d4) (.cons dv .nil)) (DpAll.drop _ d4)
        · rw [take_snoc hxw, List.foldl_append, ← ezs]
          rfl
      · obtain ⟨u3, u4, ys, zs, rfl, s3, hp3, d3, ezs, smz, lz⟩ := q
        rw [lx, List.take_length] at ezs
        subst ezs
        exact z _ _ ⟨_, _, ys, rfl, s3, hp3, d3⟩
    obtain ⟨u3, u4, ys, rfl, s2, hp2, d2⟩ := hp2
    walk_at "rd"
    refine ⟨_, rfl, k H2 p s2 hp0 ⟨ys, ?_, DpAll.same plus_down d2⟩⟩
    rw [hide_off (hN.off hp0)]
    exact hp2
abbrev st__law_down : Stmt := top 41
theorem sc__law_down : FnScope ["stream", "order", "words", "many", "here", "k", "lower", "word"] ["stream", "order", "words"] (defScope st__law_down) := ⟨rfl, rfl, rfl, by decide +kernel, rfl, by decide +kernel, by decide +kernel⟩

def spDown (K : PySem.W.Frag) (C : Addr) (n : Nat) : Sp := fun vs H Q _ => ∃ N s c o l wt rk ws nn, vs = [.ref s, o, .ref l] ∧ Tr N H ∧ N s ∧ N c ∧ Stm s c H nn ∧ nn + 1000 < 1000000 ∧ OrdAt C (hide N H) o wt rk ∧ W.Inj rk ∧ WordsAt K N H l ws ∧ Small n ws ∧ 0 < ws.length ∧ ws.length ≤ 900 ∧ Up wt rk ws ∧ ∀ (r : Int) H', r ≤ (ws.length : Nat) → Kept (two s c) H H' → Stm s c H' (nn + 1000) → Q (.int r) H'
theorem ok_down (G : Glob K mg) {C : Addr} (D : Def K mg "_law_down" st__law_down ["stream", "order", "words"]) {n j : Nat} (hn : n ≤ 50) (hj : 2 ≤ j) (c__law_pick : Callee P w K mg base 2 "_law_pick" ["stream", "some"] (spPick K)) (c_compare : Callee P w K mg base j "compare" ["order", "one", "other"] (spCompare K C n)) : Callee P w K mg base (j + 1) "_law_down" ["stream", "order", "words"] (spDown K C n) := by
  obtain ⟨f, fd, F, b, m⟩ := D.ex
  have z_len := G.len
  have z_range := G.range
  refine ⟨f, fd, F.ok sc__law_down (fun vs H Q E h => ?_) (fun cdv A outer s_ H vs Q E hr h => ?_), b, F.kp, m⟩
  · obtain ⟨N, s, c, o, l, wt, rk, ws, nn, rfl, _⟩ := h
    rfl
  · obtain ⟨N, s, c, o, l, wt, rk, ws, nn, rfl, hN, ns, nc, st, hnn, ho, inj, hws, sm, hl0, hl1, up, k⟩ := h
    have hr__law_pick := hr.mono hj
    have hr_compare := hr
    have hu64 : (A.deeper (envOfC "_law_down" (defScope st__law_down) s_.heap.objs.size f cdv)).units + 64 < cLine := by have := hr.un; omega
    refine ⟨_, (pss_cons (ps_asg (pe_tup (pa_cons pe_int (pa_cons (pe_own c__law_pick hr__law_pick rfl (pa_cons (pv 0) (pa_cons (pv 2) pa_nil))) pa_nil))) (pg_tup rfl (pgs_cons (pg_name (i := 3) sc__law_down.nd rfl (Or.inl rfl)) (pgs_cons (pg_name (i := 4) sc__law_down.nd rfl (Or.inr rfl)) pgs_nil)))) (pss_cons (ps_for PassesOwn.never rfl (pi_range1 rfl z_range (pa_cons (pe_callB call_len_seq rfl z_len PySem.boot_len (pa_cons (pv 2) pa_nil)) pa_nil)) (pg_name (i := 5) sc__law_down.nd rfl (Or.inl rfl)) (pss_cons (ps_setLc (i := 6) (own := [("word", 7)]) (g := (gName 7)) rfl sc__law_down.nd rfl rfl (sw_true rfl rfl rfl (by decide +kernel)) (pi_list (pv 2)) (blkOk_by (N := ["stream", "order", "words", "many", "here", "k", "lower", "word"]) (sc := defScope st__law_down) (by decide +kernel)) (fun _ _ _ _ _ => (pg_name (i := 7) sc__law_down.nd rfl (Or.inl rfl))) (fun _ _ _ _ _ => (pts_one (pt_cmpR op_eq (pe_own c_compare hr_compare rfl (pa_cons (pv 1) (pa_cons (pv 4) (pa_cons (pv 7) pa_nil)))) pe_str (nomark _)))) (fun _ _ _ _ _ => (pv 7))) (pss_cons (ps_set (i := 3) sc__law_down.nd rfl (Or.inl rfl) (pe_op op_add (pv 3) pe_int)) (pss_cons (ps_if (pt_cmpR (op_eqD hu64) (pv 6) (pe_lst pa_nil) (nomark _)) (pss_one (ps_ret (pv 3))) pss_nil) (pss_one (ps_set (i := 4) sc__law_down.nd rfl (Or.inr rfl) (pe_own c__law_pick hr__law_pick rfl (pa_cons (pv 0) (pa_cons (pv 6) pa_nil))))))))) (pss_one (ps_ret (pe_op op_add (pe_callB call_len_seq rfl z_len PySem.boot_len (pa_cons (pv 2) pa_nil)) pe_int))))), ?_⟩
    obtain ⟨xs, hxs, dxs⟩ := hws.ex
    have nl : ¬ N l := (hide_some hxs).1
    have sub : ∀ a, two s c a → N a := fun a h => h.elim (fun h => by rw [h]; exact ns) fun h => by rw [h]; exact nc
    have n2l : ¬ two s c l := fun h => nl (sub _ h)
    have lx : xs.length = ws.length := by have := DpAll.length dxs; rw [List.length_map] at this; exact this
    refine q_seq (fun σ' H' => ∃ (here : V) (r : Nat) (x : W), σ' = [some (.ref s), some o, some (.ref l), some (.int 0), some here, none, none, none] ∧ Kept (two s c) H H' ∧ Stm s c H' (nn + 1) ∧ ws[r]? = some x ∧ Dp K (hide N H') here x.dat) (fun Z z => ?_) (fun σ1 H1 hp1 => ?_)
    · walk_at "rd"
      refine ⟨_, rfl, _, rfl, s, c, l, xs, nn, rfl, st, by omega, n2l, (hide_some hxs).2, by omega, by omega, fun r here H1 hr1 k1 st1 => ?_⟩
      have hx : ∃ x, ws[r]? = some x := ⟨_, List.getElem?_eq_getElem (by have := (List.getElem?_eq_some_iff.mp hr1).1; omega)⟩
      obtain ⟨x, hx⟩ := hx
      refine ⟨by decide, fun p hp => ?_⟩
      have e1 := same_new hp (.tup [.int 0, here])
      have kA := k1.trans (Kept.of e1)
      obtain ⟨dd, hd1, hd2⟩ := DpAll.get (DpAll.same (kA.sub sub) dxs) hr1
      rw [List.getElem?_map, hx] at hd1
      cases (Option.some.inj hd1)
      exact ⟨p, _, rfl, .inl (.inl upd_same), rfl, _, _, rfl, _, _, rfl, rfl, z _ _ ⟨here, r, x, rfl, kA, st1.same e1, hx, hd2⟩⟩
    obtain ⟨here, r, x, rfl, k1, st1, hx, hh⟩ := hp1
    refine q_seq (fun σ' H' => False) (fun Z z => ?_) (fun σ2 H2 hp2 => hp2.elim)
    refine rd_for ?_
    walk_at "rd"
    refine ⟨_, rfl, l, xs, rfl, .inl (.inl (.inl (k1.at n2l (hide_some hxs).2))), _, rfl, by omega, by omega, ?_⟩
    rw [show ((xs.length : Nat) : Int).toNat = xs.length from Int.toNat_natCast _]
    refine forq (St := fun _ => True) (sp_range (lo := 0)) (fun i σ' H' => ∃ (u5 u6 : Option V) (here : V) (r : Nat) (x : W), σ' = [some (.ref s), some o, some (.ref l), some (.int (i : Nat)), some here, u5, u6, none] ∧ Kept (two s c) H H' ∧ Stm s c H' (nn + 1 + i) ∧ ws[r]? = some x ∧ Dp K (hide N H') here x.dat ∧ r + i < xs.length) ⟨_, _, here, r, x, rfl, k1, st1, hx, hh, by have := (List.getElem?_eq_some_iff.mp hx).1; omega⟩ (fun _ _ _ _ => trivial) (fun i v σ' H0' H' hi q e hr' => ?_) (fun σ' H' q => ?_)
    · obtain ⟨u5, u6, here, r, x, rfl, k2, st2, hx, hh, hri⟩ := q
      obtain ⟨rfl, rfl⟩ := hr'
      have keepN : Kept N H H' := k2.sub sub
      have trN : Tr N H' := fun a h => by
        by_cases h2 : two s c a
        · exact st2.tr a h2
        · intro z
          have h3 := hN a h
          cases q : H a with
          | none => exact h3 q
          | some o => rw [k2.at h2 q] at z; cases z
      have dxs2 := DpAll.same keepN dxs
      have hl2 : H' l = some (.lst xs) := k2.at n2l (hide_some hxs).2
      have smx := sm x (List.mem_of_getElem? hx)
      have hrl : r < ws.length := (List.getElem?_eq_some_iff.mp hx).1
      refine q_seq (fun σ' H4 => ∃ lo ys, σ' = [some (.ref s), some o, some (.ref l), some (.int (i : Nat)), some here, some (.int (0 + (i : Int))), some (.ref lo), none] ∧ Same H' H4 ∧ H' lo = none ∧ H4 lo = some (.lst ys) ∧ DpAll K (hide N H4) ys ((ws.take r).map W.dat)) (fun Z1 z1 => ?_) (fun σ4 H4 hp4 => ?_)
      · walk_at "rd"
        refine rd_lc ?_
        walk_at "rd"
        refine ⟨_, rfl, l, rfl, ⟨_, .inl (.inl hl2)⟩, ?_⟩
        refine lcp (K := K) (N := N) trN (src_list (.inl (.inl hl2))) (by omega) (fun q => W.abv wt rk x (ws.getD q .a)) (fun q => (ws.getD q .a).dat) (fun q y H7 N7 Q2 Q3 hq e7 r7 tr7 hs7 q2 q3 => ?_) (fun Dl H7 ys7 nD e7 hy7 da => ?_)
        · obtain ⟨d7, hd7, hy7⟩ := DpAll.get (DpAll.same hs7 dxs2) r7
          have hz : ∃ zw, ws[q]? = some zw := ⟨_, List.getElem?_eq_getElem (by omega)⟩
          obtain ⟨zw, hz⟩ := hz
          rw [List.getElem?_map, hz] at hd7
          cases (Option.some.inj hd7)
          have eg : ws.getD q .a = zw := by rw [List.getD_eq_getElem?_getD, hz]; rfl
          have smw := sm zw (List.mem_of_getElem? hz)
          walk_at "rd"
          refine ⟨rfl, _, rfl, _, rfl, _, rfl, N7, o, here, y, x, zw, wt, rk, rfl, tr7, (ho.same keepN).same hs7, Dp.same hs7 hh, hy7, smx.1, smw.1, fun H8 e8 => ⟨rfl, _, rfl, ?_⟩⟩
          rw [show decide (V.str (W.cmp wt rk x zw) = V.str "above") = W.abv wt rk x zw by rw [← cmp_above]; by_cases q : W.cmp wt rk x zw = ("above" : Str) <;> simp [q]]
          refine ite_b (fun hb => ?_) (fun hb => ?_)
          · refine ⟨_, rfl, q2 _ _ e8 (by rw [eg]; exact hb) ?_⟩
            rw [eg]
            exact Dp.same (hide_mono e8) hy7
          · exact q3 _ e8 (by rw [eg]; exact hb)
        · rw [lx, filter_range_map ws (fun o => W.abv wt rk x o) W.dat .a, below_take wt rk inj up hx] at da
          exact z1 _ _ ⟨Dl, ys7, rfl, e7, nD, hy7, da⟩
      obtain ⟨lo, ys, rfl, e4, hlo0, hlo, dlo⟩ := hp4
      have st4 := st2.same e4
      have k4 := k2.trans (Kept.of e4)
      refine q_seq (fun σ' H5 => σ' = [some (.ref s), some o, some (.ref l), some (.int ((i + 1 : Nat) : Int)), some here, some (.int (0 + (i : Int))), some (.ref lo), none] ∧ H5 = H4) (fun Z1 z1 => ?_) (fun σ5 H5 hp5 => ?_)
      · walk_at "rd"
        exact ⟨_, rfl, _, _, rfl, rfl, z1 _ _ ⟨rfl, rfl⟩⟩
      obtain ⟨rfl, rfl⟩ := hp5
      have ly : ys.length = (ws.take r).length := by have := DpAll.length dlo; rw [List.length_map] at this; exact this
      rw [List.length_take] at ly
      refine q_when (ws.take r).isEmpty (fun Q1 q1 => ?_) (fun hb H6 e6 => ?_) (fun hb H6 e6 => ?_)
      · walk_at "rd"
        refine ⟨_, rfl, by decide, fun p hp => ?_⟩
        have e5 := same_new hp (.lst [])
        refine ⟨.list ((ws.take r).map W.dat), .list [], .lst (.inl (.inl (e5 _ _ hlo))) (DpAll.same (hide_same.trans e5) dlo), .lst (.inl (.inl upd_same)) .nil, words_shaped (n := n) (fun x hx => Nat.le_of_lt (sm x (List.mem_of_mem_take hx)).1) hn, by decide, _, rfl, ?_⟩
        rw [eqv_nil]
        exact q1 _ e5
      · walk_at "rd"
        exact ⟨_, rfl, k _ _ (by omega) (k4.trans (Kept.of e6)) ((st4.same e6).mono (by omega))⟩
      · have hr0 : 0 < r := by
          cases r with
          | zero => cases hb
          | succ r => omega
        walk_at "rd"
        have st6 := st4.same e6
        have n2lo : ¬ two s c lo := st2.tr.off hlo0
        refine ⟨_, rfl, _, rfl, s, c, lo, ys, _, rfl, st6, by omega, n2lo, e6 _ _ hlo, by omega, by omega, fun r' here' H7 hr7 k7 st7 => ?_⟩
        have hr7' : r' < ys.length := (List.getElem?_eq_some_iff.mp hr7).1
        have hr8 : r' < r := by omega
        obtain ⟨dd, hd1, hd2⟩ := DpAll.get (DpAll.same ((Kept.of (N := N) e6).trans (k7.sub sub)) dlo) hr7
        rw [List.getElem?_map, List.getElem?_take, if_pos hr8] at hd1
        have hx' : ∃ x', ws[r']? = some x' := ⟨_, List.getElem?_eq_getElem (by omega)⟩
        obtain ⟨x', hx'⟩ := hx'
        rw [hx'] at hd1
        cases (Option.some.inj hd1)
        exact ⟨_, _, here', r', x', rfl, (k4.trans (Kept.of e6)).trans k7, st7.mono (by omega), hx', hd2, by omega⟩
    · obtain ⟨u5, u6, here, r, x, rfl, k2, st2, hx, hh, hri⟩ := q
      exact absurd hri (by omega)
end
end K29

-- text: LawP
set_option linter.all false
set_option maxRecDepth 100000
set_option maxHeartbeats 4000000
/-! what the law compares: plain Lean -/
namespace K29
open PySem PySem.Spec PyProof.Rows L2 DB
def names5 : List Str := ["a", "b", "f", "g", "p"]
theorem nm5 (x : W) : x.nm ∈ names5 := by
  cases x <;> simp [W.nm, names5]
theorem names5_ok : ∀ n ∈ names5, nameOk n = true ∧ n.length ≤ 100000 := by decide +kernel
theorem names5_nd : names5.Nodup := by decide +kernel
theorem full_of {rws : List (Str × Int)} (h : (rws.map (·.1)).Perm names5) (hw : ∀ p ∈ rws, p.2 = 1 ∨ p.2 = 2) : Full rws := by
  refine ⟨⟨h.nodup_iff.mpr names5_nd, fun p hp => ?_, ?_⟩, fun x => ?_⟩
  · have := names5_ok p.1 (h.mem_iff.mp (List.mem_map.mpr ⟨p, hp, rfl⟩))
    have h2 := hw p hp
    exact ⟨this.1, by omega, this.2⟩
  · have := h.length_eq
    rw [List.length_map] at this
    rw [this]
    decide
  · obtain ⟨p, hp, e⟩ := List.mem_map.mp (h.mem_iff.mpr (nm5 x))
    obtain ⟨j, hj⟩ := List.getElem?_of_mem hp
    exact ⟨j, p, hj, e⟩
theorem wts_of {rws : List (Str × Int)} (F : Full rws) (hw : ∀ p ∈ rws, p.2 = 1 ∨ p.2 = 2) (x : W) : wtOf rws x.nm = 1 ∨ wtOf rws x.nm = 2 := by
  obtain ⟨j, p, hj, e⟩ := F.all x
  rw [← e, wtOf_get F.ok hj]
  exact hw p (List.mem_of_getElem? hj)
theorem Full.rev {rws : List (Str × Int)} (F : Full rws) : Full rws.reverse := by
  refine ⟨⟨?_, fun p hp => F.ok.ok p (List.mem_reverse.mp hp), by rw [List.length_reverse]; exact F.ok.len⟩, fun x => ?_⟩
  · rw [List.map_reverse]
    exact (List.reverse_perm _).nodup_iff.mpr F.ok.nd
  · obtain ⟨j, p, hj, e⟩ := F.all x
    obtain ⟨i, hi⟩ := List.getElem?_of_mem (List.mem_reverse.mpr (List.mem_of_getElem? hj))
    exact ⟨i, p, hi, e⟩
theorem paired_perm {α β : Type} {R : α → β → Prop} {xs ys : List α} (h : ys.Perm xs) : ∀ {zs : List β}, Paired R xs zs → ∃ zs', zs'.Perm zs ∧ Paired R ys zs' := by
  induction h with
  | nil => intro zs p; exact ⟨zs, List.Perm.refl _, p⟩
  | cons x h ih =>
    intro zs p
    cases p with
    | cons q r =>
      obtain ⟨zs', h1, h2⟩ := ih r
      exact ⟨_ :: zs', h1.cons _, .cons q h2⟩
  | swap x y l =>
    intro zs p
    cases p with
    | cons q r =>
      cases r with
      | cons q2 r => exact ⟨_, List.Perm.swap _ _ _, .cons q2 (.cons q r)⟩
  | trans h1 h2 ih1 ih2 =>
    intro zs p
    obtain ⟨z2, a, b⟩ := ih2 p
    obtain ⟨z1, c, d⟩ := ih1 b
    exact ⟨z1, c.trans a, d⟩
theorem dp_paired {K : PySem.W.Frag} {h : Hp} : ∀ {ys : List V} {ws : List W}, DpAll K h ys (ws.map W.dat) → Paired (fun v w => Dp K h v (W.dat w)) ys ws
  | [], [], _ => .nil
  | y :: ys, w :: ws, d => by
    cases d with
    | cons q r => exact .cons q (dp_paired r)
  | [], w :: ws, d => by cases d
  | y :: ys, [], d => by cases d
theorem paired_dp {K : PySem.W.Frag} {h : Hp} : ∀ {ys : List V} {ws : List W}, Paired (fun v w => Dp K h v (W.dat w)) ys ws → DpAll K h ys (ws.map W.dat)
  | _, _, .nil => .nil
  | _, _, .cons q r => .cons q (paired_dp r)
section
variable (wt : Str → Int) (rk : Str → Nat)
theorem cmp_same (x : W) : W.cmp wt rk x x = ("same" : Str) := if_pos rfl
theorem cmp_up {x y : W} (h : W.abv wt rk x y = true) : W.cmp wt rk x y = ("above" : Str) := by
  have e : x ≠ y := fun q => by subst q; rw [W.abv_irr] at h; cases h
  unfold W.cmp
  rw [if_neg e, if_pos h]
theorem cmp_down (inj : W.Inj rk) {x y : W} (h : W.abv wt rk y x = true) : W.cmp wt rk x y = ("below" : Str) := by
  have e : x ≠ y := fun q => by subst q; rw [W.abv_irr] at h; cases h
  unfold W.cmp
  rw [if_neg e, if_neg (by rw [abv_asym wt rk inj h]; exact Bool.false_ne_true), if_pos h]
theorem cmp_row (inj : W.Inj rk) {l : List W} (up : Up wt rk l) {a : Nat} {x : W} (hx : l[a]? = some x) : l.map (W.cmp wt rk x) = (List.replicate a ("above" : Str) ++ [("same" : Str)]) ++ List.replicate (l.length - a - 1) ("below" : Str) := by
  have ha := (List.getElem?_eq_some_iff.mp hx).1
  apply List.ext_getElem?
  intro i
  rw [List.getElem?_map]
  by_cases hi : i < l.length
  · obtain ⟨y, hy⟩ : ∃ y, l[i]? = some y := ⟨_, List.getElem?_eq_getElem hi⟩
    rw [hy]
    show some (W.cmp wt rk x y) = _
    rcases Nat.lt_trichotomy i a with h | h | h
    · rw [cmp_up wt rk (up_at wt rk up hy hx h), List.getElem?_append_left (by simp; omega), List.getElem?_append_left (by simp; omega), List.getElem?_replicate, if_pos h]
    · subst h
      rw [hx] at hy
      cases hy
      rw [cmp_same, List.getElem?_append_left (by simp), List.getElem?_append_right (by simp)]
      simp
    · rw [cmp_down wt rk inj (up_at wt rk up hx hy h), List.getElem?_append_right (by simp; omega), List.getElem?_replicate, if_pos (by simp; omega)]
  · rw [List.getElem?_eq_none (by omega), List.getElem?_eq_none (by simp; omega)]
    rfl
theorem cmp_atoms {l : List W} (up : Up wt rk l) {a : Nat} {x : W} (hx : l[a]? = some x) : (l.take a).map (fun y => W.cmp wt rk (.p x) (.p y)) = List.replicate a ("above" : Str) := by
  have ha := (List.getElem?_eq_some_iff.mp hx).1
  apply List.ext_getElem?
  intro i
  rw [List.getElem?_map, List.getElem?_take, List.getElem?_replicate]
  by_cases hi : i < a
  · rw [if_pos hi, if_pos hi]
    obtain ⟨y, hy⟩ : ∃ y, l[i]? = some y := ⟨_, List.getElem?_eq_getElem (by omega)⟩
    rw [hy]
    show some (W.cmp wt rk (.p x) (.p y)) = _
    rw [cmp_up]
    have h := up_at wt rk up hy hx hi
    have hw := W.abv_wgt wt rk h
    show (if (W.p x).wgt wt ≠ (W.p y).wgt wt then decide ((W.p y).wgt wt < (W.p x).wgt wt) else W.abv wt rk x y) = true
    by_cases e : (W.p x).wgt wt = (W.p y).wgt wt
    · rw [if_neg (fun q => q e)]
      exact h
    · rw [if_pos e]
      refine decide_eq_true ?_
      have : ∀ z : W, (W.p z).wgt wt = wt "p" + z.wgt wt := fun z => rfl
      rw [this, this] at e ⊢
      omega
  · rw [if_neg hi, if_neg hi]
    rfl
theorem wts_up {l : List W} (up : Up wt rk l) : (l.map (W.wgt wt)).Pairwise (· ≤ ·) := by
  rw [List.pairwise_map]
  exact up.imp fun h => W.abv_wgt wt rk h
end
theorem sorted_eq : ∀ {l m : List Int}, l.Perm m → l.Pairwise (· ≤ ·) → m.Pairwise (· ≤ ·) → l = m
  | [], m, p, _, _ => (List.nil_perm.mp p).symm
  | x :: l, [], p, _, _ => absurd p.length_eq (by simp)
  | x :: l, y :: m, p, h1, h2 => by
    obtain ⟨a1, a2⟩ := List.pairwise_cons.mp h1
    obtain ⟨b1, b2⟩ := List.pairwise_cons.mp h2
    have e : x = y := by
      have hx : x ∈ y :: m := p.mem_iff.mp (List.mem_cons_self ..)
      have hy : y ∈ x :: l := p.mem_iff.mpr (List.mem_cons_self ..)
      rcases List.mem_cons.mp hx with h | h
      · exact h
      · rcases List.mem_cons.mp hy with h' | h'
        · exact h'.symm
        · have := a1 y h'
          have := b1 x h
          omega
    subst e
    rw [sorted_eq p.cons_inv a2 b2]
theorem strs_shaped (ns : List Str) (ok : ∀ n ∈ ns, PyData.strOk n = true) : SeqAt.shaped (.list (ns.map PyData.str)) = true := by
  have h1 : ∀ ns : List Str, (∀ n ∈ ns, PyData.strOk n = true) → PyData.canLayAll0 (ns.map PyData.str) = true := fun ns => by
    induction ns with
    | nil => intro _; rfl
    | cons n r ih => intro h; simp [PyData.canLayAll0, PyData.canLay0, ih fun x hx => h x (List.mem_cons_of_mem _ hx), h n (List.mem_cons_self ..)]
  have h2 : ∀ ns : List Str, PyData.depthAll (ns.map PyData.str) ≤ 1 := fun ns => by
    induction ns with
    | nil => simp [PyData.depthAll]
    | cons n r ih => simp [PyData.depthAll, PyData.depth, ih]
  show (PyData.canLay0 (.list (ns.map PyData.str)) && decide (PyData.depth (.list (ns.map PyData.str)) ≤ 64)) = true
  have h3 := h2 ns
  have e1 : PyData.canLay0 (.list (ns.map PyData.str)) = true := by simp [PyData.canLay0, h1 ns ok]
  rw [e1, Bool.true_and]
  refine decide_eq_true ?_
  simp [PyData.depth]
  omega
theorem eqv_strs (ns : List Str) : PyData.eqv (.list (ns.map PyData.str)) (.list (ns.map PyData.str)) = true := by
  have : ∀ ns : List Str, PyData.eqvAll (ns.map PyData.str) (ns.map PyData.str) = true := fun ns => by
    induction ns with
    | nil => simp [PyData.eqvAll]
    | cons n r ih => simp [PyData.eqvAll, PyData.eqv, ih]
  simp [PyData.eqv, this]
theorem eqv_ints (ns : List Int) : PyData.eqv (.list (ns.map PyData.int)) (.list (ns.map PyData.int)) = true := by
  have : ∀ ns : List Int, PyData.eqvAll (ns.map PyData.int) (ns.map PyData.int) = true := fun ns => by
    induction ns with
    | nil => simp [PyData.eqvAll]
    | cons n r ih => simp [PyData.eqvAll, PyData.eqv, ih]
  simp [PyData.eqv, this]
theorem dp_rev {K : PySem.W.Frag} {h : Hp} : ∀ {ys : List V} {ds : List PyData}, DpAll K h ys ds → DpAll K h ys.reverse ds.reverse
  | _, _, .nil => .nil
  | _, _, .cons q a => by
    rw [List.reverse_cons, List.reverse_cons]
    exact DpAll.app (dp_rev a) (.cons q .nil)
theorem strs_perm {xs : List V} {ns : List Str} (h : xs.Perm (ns.map V.str)) : ∃ ms : List Str, xs = ms.map V.str ∧ ms.Perm ns := by
  have p0 : ∀ ns : List Str, Paired (fun v (n : Str) => v = V.str n) (ns.map V.str) ns := fun ns => by
    induction ns with
    | nil => exact .nil
    | cons n r ih => exact .cons rfl ih
  obtain ⟨ms, h1, h2⟩ := paired_perm h (p0 ns)
  refine ⟨ms, ?_, h1⟩
  clear h h1 p0
  induction h2 with
  | nil => rfl
  | cons q r ih => rw [q, ih]; rfl
theorem Stm.kept {M : Addr → Prop} {s c : Addr} {H H' : Hp} {n : Nat} (h : Stm s c H n) (k : Kept M H H') (ns : ¬ M s) (nc : ¬ M c) : Stm s c H' n := by
  obtain ⟨a, b, d, e, h1, h2⟩ := h
  exact ⟨a, b, d, e, ⟨k.at ns h1.hs, k.at nc h1.hc, h1.h0, h1.m0, h1.m1⟩, h2⟩
theorem OrdAt.apart {C : Addr} {s c : Addr} {H : Hp} {v : V} {wt : Str → Int} {rk : Str → Nat} {n : Nat} (h : OrdAt C H v wt rk) (st : Stm s c H n) : OrdAt C (hide (two s c) H) v wt rk := by
  obtain ⟨o, dx, dw, dr, kw, kr, rfl, h1, h2, h3, h4, h5⟩ := h.ex
  obtain ⟨_, _, _, _, q, _⟩ := st
  have f : ∀ a x, H a = some x → (∀ l, x ≠ .lst l) → ¬ two s c a := fun a x e n z => by
    rcases z with rfl | rfl
    · rw [q.hs] at e; exact n _ (Option.some.inj e).symm
    · rw [q.hc] at e; exact n _ (Option.some.inj e).symm
  exact ⟨o, dx, dw, dr, kw, kr, rfl, (hide_off (f _ _ h1 fun _ z => nomatch z)).trans h1, (hide_off (f _ _ h2 fun _ z => nomatch z)).trans h2, (hide_off (f _ _ h3 fun _ z => nomatch z)).trans h3, h4, h5⟩
end K29

-- text: Law7
set_option linter.all false
set_option maxRecDepth 100000
set_option maxHeartbeats 4000000
namespace K29
open PySem PySem.Spec PyProof.Rows L2 DB
local macro_rules | `(tactic| walk_at "rd") => `(tactic| (dsimp only [cxOf, Cx.nox, L2.start, tRet, tRetN, tCB, tCons, tNil, tC, tVar, tTup, tLst, tB, tTest, tAnd, tOr, tNot, tAndV, tOrV, tNotV, tIfS, tIf, tSeq, tNext, tDrop, tOp, tUn, tAsg, gName, gSub, tSl, tPart, tNoPart, tCall, tPar, tBM, tChain, tYes, StX.tStar, tFld, tNotN, tIsN, tDNotIn, tDIn, tDGet, tDGet2, tDNewK, List.length_cons, List.length_nil, List.set_cons_zero, List.set_cons_succ, List.nil_append, List.cons_append, List.append_nil, gTup, gCons, gNil, tLockE, iKeys, XR.iZipTN, sFld, sDPut, iEnum, XR.iEnumK, XR.iEnumT, iList, RZ.iZipA, iTup, iRng1, iRng2, tMake, tPar3, tRevL, XR.tTwo3]))
section
variable {P : Program} {w : World} {K : PySem.W.Frag} {mg : Str → Option Value} {base : Heap}
abbrev st_law : Stmt := top 42
theorem sc_law : FnScope ["script", "stream", "turn", "rows", "arities", "known", "words", "weight", "order", "due", "at", "word", "found", "atoms", "weights", "other", "name", "far", "one"] ["script"] (defScope st_law) := ⟨rfl, rfl, rfl, by decide +kernel, rfl, by decide +kernel, by decide +kernel⟩

theorem rep_flat (n : Nat) (x : Str) : (List.replicate n [V.str x]).flatten = (List.replicate n x).map V.str := by
  induction n with
  | zero => rfl
  | succ n ih =>
    rw [List.replicate_succ, List.replicate_succ, List.flatten_cons, ih]
    rfl
theorem cutj (xs : List V) {j : Nat} (h : j ≤ xs.length) : cutV xs none (some (j : Nat)) = xs.take j := by
  unfold cutV
  rw [HT.sIx_none, HT.sIx_nat, List.drop_zero, Nat.sub_zero, List.take_eq_take_iff]
  omega
theorem atI_last {xs : List V} {v : V} (h : 0 < xs.length) (hv : xs[xs.length - 1]? = some v) : atI xs (-1) = some v := by
  unfold atI ixN
  rw [if_neg (by decide), if_pos (by omega)]
  show xs[((-1 : Int) + (xs.length : Nat)).toNat]? = some v
  rw [show ((-1 : Int) + (xs.length : Nat)).toNat = xs.length - 1 by omega]
  exact hv
theorem cut24 (xs : List V) : cutV xs none (some 24) = xs.take 24 := by
  unfold cutV
  rw [HT.sIx_none]
  have := HT.sIx_nat xs.length xs.length 24
  rw [show ((24 : Nat) : Int) = 24 from rfl] at this
  rw [this, List.drop_zero, Nat.sub_zero]
  rw [List.take_eq_take_iff]
  omega
def rDictP (K : PySem.W.Frag) : List V → Hp → VK → Prop := fun xs H Q => ∃ (a : Addr) (ps : List Addr) (kvs : List (Key × V)), xs = [.ref a] ∧ SqL K H a (ps.map V.ref) ∧ Paired (fun p kv => SqT K H p [kV kv.1, kv.2]) ps kvs ∧
    ∀ p, H p = none → Q (.ref p) (upd H p (.dK (mergeK [] kvs)))
theorem pe_mk {X : Cx} {k : Nat} {x : Str} {C : Addr} {sp : Sp} {e : Expr} {es : List Expr} {t : TA} {p pos : Pos} (M : Maker X.prog X.w X.K X.mg X.base k C sp) (hr : Room (k + 1) X.A) (hg : Gl X x) (hm : X.mg x = some (.ref C)) (ha : PA X (e :: es) t) (hd : (x == ("__debug__" : Str)) = false := by decide)
    (he : starEach (e :: es) X.env = (false, eval e X.env) :: starEach es X.env := by rfl) (hpl : (backTo pos (starEach es X.env)).any (·.1) = false := by rfl) :
    PE X (.Call (.Name x p) (e :: es) [] pos) (tMake C sp [] E0 t) := by
  obtain ⟨f, fd, F, b, m⟩ := M.ex
  exact pe_make m F hr hg hm b .nil pass0 ha hd he hpl
def spLaw (K : PySem.W.Frag) : Sp := fun vs H Q _ => ∃ (l : Addr) (ns : List Int), vs = [.ref l] ∧ SqL K H l (ns.map V.int) ∧ ∀ H', Q (.bl true) H'
structure Callees (P : Program) (w : World) (K : PySem.W.Frag) (mg : Str → Option Value) (base : Heap) (C : Addr) : Prop where
  start : Callee P w K mg base 1 "_law_start" ["script"] (spStart K)
  draw : Callee P w K mg base 1 "_law_draw" ["stream", "many"] spDraw
  mixed : Callee P w K mg base 2 "_law_mixed" ["stream", "some"] (spMixed K)
  ofw : Callee P w K mg base 13 "_law_of_weight" ["rows", "arities", "weight", "known"] (spOfW K 4)
  order : Maker P w K mg base 2 C (spInit K C)
  sorted : Callee P w K mg base 13 "_law_sorted" ["rows", "words"] (spSorted K 5)
  compare : Callee P w K mg base 14 "compare" ["order", "one", "other"] (spCompare K C 5)
  same : Callee P w K mg base 2 "_law_same" ["found", "due"] (spSame1 K)
  weight : Callee P w K mg base 6 "_law_d_weight" ["weights", "word"] (spDWeight K 5)
  down : Callee P w K mg base 15 "_law_down" ["stream", "order", "words"] (spDown K C 5)
theorem ok_law (G : Glob K mg) {C : Addr} (T : OTxt K mg C) {f : Addr} {fd : FuncData} (F : Fun K "law" "law" st_law f fd) (CS : Callees P w K mg base C) : FnOk P w K mg base CX0 16 f fd ["script"] (spLaw K) := by
  have z_range := G.range
  have z_len := G.len
  have z_enumerate := G.enumerate
  have z_sorted := G.sorted
  have z_dict := G.dict
  have c__law_start := CS.start
  have c__law_draw := CS.draw
  have c__law_mixed := CS.mixed
  have c__law_of_weight := CS.ofw
  have c_Order := CS.order
  have c__law_sorted := CS.sorted
  have c_compare := CS.compare
  have c__law_same := CS.same
  have c__law_d_weight := CS.weight
  have c__law_down := CS.down
  have m_Order := T.mgC
  refine F.ok sc_law (fun vs H Q E h => ?_) (fun cdv A outer s_ H vs Q E hr h => ?_)
  · obtain ⟨l, ns, rfl, _⟩ := h
    rfl
  · obtain ⟨l, ns, rfl, hl, k⟩ := h
    have hr__law_start := hr.mono (show 1 ≤ 15 by decide)
    have hr__law_draw := hr.mono (show 1 ≤ 15 by decide)
    have hr__law_mixed := hr.mono (show 2 ≤ 15 by decide)
    have hr__law_of_weight := hr.mono (show 13 ≤ 15 by decide)
    have hr_Order := hr.mono (show 3 ≤ 15 by decide)
    have hr__law_sorted := hr.mono (show 13 ≤ 15 by decide)
    have hr_compare := hr.mono (show 14 ≤ 15 by decide)
    have hr__law_same := hr.mono (show 2 ≤ 15 by decide)
    have hr__law_d_weight := hr.mono (show 6 ≤ 15 by decide)
    have hr__law_down := hr
    have hu := hu_of hr
    have hu64 : (A.deeper (envOfC "law" (defScope st_law) s_.heap.objs.size f cdv)).units + 64 < cLine := by have := hr.un; omega
    refine ⟨_, (pss_cons (ps_set (i := 1) sc_law.nd rfl (Or.inr rfl) (pe_own c__law_start hr__law_start rfl (pa_cons (pv 0) pa_nil))) (pss_cons (ps_for PassesOwn.never rfl (pi_range1 rfl z_range (pa_cons pe_int pa_nil)) (pg_name (i := 2) sc_law.nd rfl (Or.inl rfl)) (pss_cons (ps_set (i := 3) sc_law.nd rfl (Or.inr rfl) (pe_lc (own := [("name", 16)]) (g := (gName 16)) (tt := tYes) rfl sc_law.nd (pi_list (pe_own c__law_mixed hr__law_mixed rfl (pa_cons (pv 1) (pa_cons (pe_lst (pa_cons pe_str (pa_cons pe_str (pa_cons pe_str (pa_cons pe_str (pa_cons pe_str pa_nil)))))) pa_nil)))) (blkOk_by (N := ["script", "stream", "turn", "rows", "arities", "known", "words", "weight", "order", "due", "at", "word", "found", "atoms", "weights", "other", "name", "far", "one"]) (sc := defScope st_law) (by decide +kernel)) (fun _ _ _ _ _ => (pg_name (i := 16) sc_law.nd rfl (Or.inl rfl))) (fun _ _ _ _ _ => pts_nil) (fun _ _ _ _ _ => (pe_tup (pa_cons (pv 16) (pa_cons (pe_op op_add pe_int (pe_own c__law_draw hr__law_draw rfl (pa_cons (pv 1) (pa_cons pe_int pa_nil)))) pa_nil)))))) (pss_cons (ps_par3 (i := 4) (j := 5) (l := 6) rfl sc_law.nd rfl rfl rfl (by decide) (by decide) (by decide) rfl rfl rfl (pa_cons (pe_lst (pa_cons (pe_tup (pa_cons pe_str (pa_cons pe_int pa_nil))) (pa_cons (pe_tup (pa_cons pe_str (pa_cons pe_int pa_nil))) (pa_cons (pe_tup (pa_cons pe_str (pa_cons pe_int pa_nil))) (pa_cons (pe_tup (pa_cons pe_str (pa_cons pe_int pa_nil))) pa_nil))))) (pa_cons pe_dnewK (pa_cons (pe_lst pa_nil) pa_nil))) rfl) (pss_cons (ps_for PassesOwn.never rfl (pi_range2 rfl z_range (pa_cons pe_int (pa_cons pe_int pa_nil))) (pg_name (i := 7) sc_law.nd rfl (Or.inl rfl)) (pss_one (ps_expr (pe_bm PySem.F.plainAttrs_list PySem.F.slot_list_extend PySem.F.type_list_extend mt_extend (pv 6) (pa_cons (pe_own c__law_of_weight hr__law_of_weight rfl (pa_cons (pv 3) (pa_cons (pv 4) (pa_cons (pv 7) (pa_cons (pv 5) pa_nil))))) pa_nil))))) (pss_cons (ps_set (i := 6) sc_law.nd rfl (Or.inl rfl) (pe_slice sl_list (pe_own c__law_mixed hr__law_mixed rfl (pa_cons (pv 1) (pa_cons (pv 6) pa_nil))) po_none (po_some pe_int))) (pss_cons (ps_asg (pe_tup (pa_cons (pe_mk c_Order hr_Order rfl m_Order (pa_cons (pv 3) pa_nil)) (pa_cons (pe_own c__law_sorted hr__law_sorted rfl (pa_cons (pv 3) (pa_cons (pv 6) pa_nil))) pa_nil))) (pg_tup rfl (pgs_cons (pg_name (i := 8) sc_law.nd rfl (Or.inr rfl)) (pgs_cons (pg_name (i := 9) sc_law.nd rfl (Or.inr rfl)) pgs_nil)))) (pss_cons (ps_for PassesOwn.never rfl (pi_enum rfl z_enumerate (pa_cons (pv 9) pa_nil)) (pg_tup rfl (pgs_cons (pg_name (i := 10) sc_law.nd rfl (Or.inl rfl)) (pgs_cons (pg_name (i := 11) sc_law.nd rfl (Or.inr rfl)) pgs_nil))) (pss_cons (ps_setLc (i := 12) (own := [("far", 17)]) (g := (gName 17)) (tt := tYes) rfl sc_law.nd rfl rfl (sw_true rfl rfl rfl (by decide +kernel)) (pi_list (pv 9)) (blkOk_by (N := ["script", "stream", "turn", "rows", "arities", "known", "words", "weight", "order", "due", "at", "word", "found", "atoms", "weights", "other", "name", "far", "one"]) (sc := defScope st_law) (by decide +kernel)) (fun _ _ _ _ _ => (pg_name (i := 17) sc_law.nd rfl (Or.inl rfl))) (fun _ _ _ _ _ => pts_nil) (fun _ _ _ _ _ => (pe_own c_compare hr_compare rfl (pa_cons (pv 8) (pa_cons (pv 11) (pa_cons (pv 17) pa_nil)))))) (pss_cons (ps_if (pt_not (pt_val (pe_own c__law_same hr__law_same rfl (pa_cons (pv 12) (pa_cons (pe_op op_cat (pe_op op_cat (pe_op op_rep (pe_lst (pa_cons pe_str pa_nil)) (pv 10)) (pe_lst (pa_cons pe_str pa_nil))) (pe_op op_rep (pe_lst (pa_cons pe_str pa_nil)) (pe_op op_sub (pe_op op_sub (pe_callB call_len_seq rfl z_len PySem.boot_len (pa_cons (pv 9) pa_nil)) (pv 10)) pe_int))) pa_nil))))) (pss_one (ps_ret pe_bl)) pss_nil) (pss_cons (ps_setLc (i := 13) (own := [("far", 17)]) (g := (gName 17)) (tt := tYes) rfl sc_law.nd rfl rfl (sw_true rfl rfl rfl (by decide +kernel)) (pi_list (pe_slice sl_list (pv 9) po_none (po_some (pv 10)))) (blkOk_by (N := ["script", "stream", "turn", "rows", "arities", "known", "words", "weight", "order", "due", "at", "word", "found", "atoms", "weights", "other", "name", "far", "one"]) (sc := defScope st_law) (by decide +kernel)) (fun _ _ _ _ _ => (pg_name (i := 17) sc_law.nd rfl (Or.inl rfl))) (fun _ _ _ _ _ => pts_nil) (fun _ _ _ _ _ => (pe_own c_compare hr_compare rfl (pa_cons (pv 8) (pa_cons (pe_tup (pa_cons pe_str (pa_cons (pv 11) pa_nil))) (pa_cons (pe_tup (pa_cons pe_str (pa_cons (pv 17) pa_nil))) pa_nil)))))) (pss_one (ps_if (pt_cmpR (op_neD hu64) (pv 13) (pe_op op_rep (pe_lst (pa_cons pe_str pa_nil)) (pv 10)) (nomark _)) (pss_one (ps_ret pe_bl)) pss_nil)))))) (pss_cons (ps_setLc (i := 14) (own := [("word", 11)]) (g := (gName 11)) (tt := tYes) rfl sc_law.nd rfl rfl (sw_true rfl rfl rfl (by decide +kernel)) (pi_list (pv 9)) (blkOk_by (N := ["script", "stream", "turn", "rows", "arities", "known", "words", "weight", "order", "due", "at", "word", "found", "atoms", "weights", "other", "name", "far", "one"]) (sc := defScope st_law) (by decide +kernel)) (fun _ _ _ _ _ => (pg_name (i := 11) sc_law.nd rfl (Or.inl rfl))) (fun _ _ _ _ _ => pts_nil) (fun _ _ _ _ _ => (pe_own c__law_d_weight hr__law_d_weight rfl (pa_cons (pe_callTy (show CallR _ _ (rDictP K) from (call_dictP rfl)) rfl z_dict boot_dict (pa_cons (pv 3) pa_nil)) (pa_cons (pv 11) pa_nil))))) (pss_cons (ps_if (PW.pt (pw_or (pt_cmpR (op_neD hu64) (pv 14) (pe_callB cr_sorted rfl z_sorted boot_sorted (pa_cons (pv 14) pa_nil)) (nomark _)) (pw_or1 (pt_cmpR op_gt (pe_own c__law_down hr__law_down rfl (pa_cons (pv 1) (pa_cons (pv 8) (pa_cons (pv 9) pa_nil)))) (pe_callB call_len_seq rfl z_len PySem.boot_len (pa_cons (pv 9) pa_nil)) (nomark _))))) (pss_one (ps_ret pe_bl)) pss_nil) (pss_cons (ps_set (i := 15) sc_law.nd rfl (Or.inl rfl) (pe_mk c_Order hr_Order rfl m_Order (pa_cons (pe_revL (pv 3)) pa_nil))) (pss_cons (ps_setLc (i := 12) (own := [("one", 18)]) (g := (gName 18)) (tt := tYes) rfl sc_law.nd rfl rfl (sw_true rfl rfl rfl (by decide +kernel)) (pi_tup (pe_tup (pa_cons (pv 8) (pa_cons (pv 15) (pa_cons (pv 8) pa_nil))))) (blkOk_by (N := ["script", "stream", "turn", "rows", "arities", "known", "words", "weight", "order", "due", "at", "word", "found", "atoms", "weights", "other", "name", "far", "one"]) (sc := defScope st_law) (by decide +kernel)) (fun _ _ _ _ _ => (pg_name (i := 18) sc_law.nd rfl (Or.inl rfl))) (fun _ _ _ _ _ => pts_nil) (fun _ _ _ _ _ => (pe_own c_compare hr_compare rfl (pa_cons (pv 18) (pa_cons (pe_ix (show IxR _ (rIxL K) from ix_list) (pv 9) pe_int (fun _ _ => rfl)) (pa_cons (pe_ix (show IxR _ (rIxL K) from ix_list) (pv 9) (pe_un un_neg pe_int) (fun _ _ => rfl)) pa_nil)))))) (pss_one (ps_if (PW.pt (pw_and (pt_cmpR op_gt (pe_callB call_len_seq rfl z_len PySem.boot_len (pa_cons (pv 9) pa_nil)) pe_int (nomark _)) (pw_and1 (pt_not (pt_val (pe_own c__law_same hr__law_same rfl (pa_cons (XR.pe_two3 (pv 12)) (pa_cons (pe_op op_rep (pe_lst (pa_cons pe_str pa_nil)) pe_int) pa_nil)))))))) (pss_one (ps_ret pe_bl)) pss_nil))))))))))))) (pss_one (ps_ret pe_bl)))), ?_⟩
    refine q_seq (fun σ' H' => ∃ s c, σ' = [some (.ref l), some (.ref s), none, none, none, none, none, none, none, none, none, none, none, none, none, none, none, none, none] ∧ Stm s c H' 0) (fun Z z => ?_) (fun σ1 H1 hp1 => ?_)
    · walk_at "rd"
      exact ⟨_, rfl, l, ns, rfl, hl, fun s c H' e h1 h2 st => z _ _ ⟨s, c, rfl, st⟩⟩
    obtain ⟨s, c, rfl, st1⟩ := hp1
    refine q_seq (fun σ' H' => True) (fun Z z => ?_) (fun σ2 H2 hp2 => k H2)
    refine rd_for ?_
    walk_at "rd"
    refine ⟨2, rfl, by decide, by decide, ?_⟩
    refine forq (St := fun _ => True) (sp_range (lo := 0)) (fun i σ' H' => ∃ u2 u3 u4 u5 u6 u7 u8 u9 u10 u11 u12 u13 u14 u15 : Option V, σ' = [some (.ref l), some (.ref s), u2, u3, u4, u5, u6, u7, u8, u9, u10, u11, u12, u13, u14, u15, none, none, none] ∧ Stm s c H' (5000 * i)) ⟨_, _, _, _, _, _, _, _, _, _, _, _, _, _, rfl, st1⟩ (fun _ _ _ _ => trivial) (fun i v σ' H0' H' hi q e hr' => ?_) (fun σ' H' q => z _ _ trivial)
    obtain ⟨u2, u3, u4, u5, u6, u7, u8, u9, u10, u11, u12, u13, u14, u15, rfl, st2⟩ := q
    obtain ⟨rfl, rfl⟩ := hr'
    have hi2 : i < 2 := hi
    -- rows
    refine q_seq (fun σ' H' => ∃ lr rws, (∃ u2 u4 u5 u6 u7 u8 u9 u10 u11 u12 u13 u14 u15 : Option V, σ' = [some (.ref l), some (.ref s), u2, some (.ref lr), u4, u5, u6, u7, u8, u9, u10, u11, u12, u13, u14, u15, none, none, none]) ∧ Stm s c H' (5000 * i + 10) ∧ Full rws ∧ (∀ p ∈ rws, p.2 = 1 ∨ p.2 = 2) ∧ Dp K (hide (two s c) H') (.ref lr) (.list (rowsD rws))) (fun Z1 z1 => ?_) (fun σ3 H3 hp3 => ?_)
    · walk_at "rd"
      refine rd_lc ?_
      walk_at "rd"
      refine ⟨_, rfl, by decide, fun p hp => ?_⟩
      have e1 := same_new hp (.lst [.str "a", .str "b", .str "f", .str "g", .str "p"])
      refine ⟨s, c, p, names5.map V.str, 5000 * i, rfl, st2.same e1, (show 5000 * i + 5 < 1000000 by omega), st2.tr.off hp, .inl (.inl upd_same), by decide, fun Dn ys H4 hperm hDn k4 st4 hys => ?_⟩
      obtain ⟨nms, rfl, hnm⟩ := strs_perm hperm
      have nDn : ¬ two s c Dn := (st2.same e1).tr.off hDn
      refine ⟨Dn, rfl, ⟨_, .inl (.inl hys)⟩, ?_⟩
      have l5 : nms.length = 5 := by rw [hnm.length_eq]; rfl
      refine lcq (sp_list (K := K) (xs := nms.map V.str)) (by rw [List.length_map]; omega) (fun D j ys H' => ∃ rws, rws.map (·.1) = nms.take j ∧ (∀ p ∈ rws, p.2 = 1 ∨ p.2 = 2) ∧ Stm s c H' (5000 * i + 5 + j) ∧ DpAll K (hide (plus (two s c) D) H') ys (rowsD rws) ∧ Kept (plus (two s c) D) H4 H' ∧ ¬ two s c D ∧ D ≠ Dn) (fun D hD => ?_) (fun D j ys H' q => ?_) (fun D j x ys H0' H' Q2 Q3 hj hD q hy hl e r q2 q3 => ?_) (fun D H' ys hD q hy => ?_)
      · have nD : ¬ two s c D := st4.tr.off hD
        exact ⟨[], rfl, (fun _ h => nomatch h), st4.same (same_new hD _), .nil, Kept.of (same_new hD _), nD, fun q => by subst q; rw [hys] at hD; cases hD⟩
      · obtain ⟨rws, _, _, _, _, kk, nD, nd⟩ := q
        exact .inl (.inl (kk.at (fun h => h.elim (fun h => nd h.symm) nDn) hys))
      · obtain ⟨rws, h1, h2, st5, d5, kk, nD, nd⟩ := q
        obtain ⟨hx, rfl⟩ := r
        rw [List.getElem?_map] at hx
        obtain ⟨nm, hnmj⟩ : ∃ nm, nms[j]? = some nm := ⟨_, List.getElem?_eq_getElem (by rw [List.length_map] at hj; exact hj)⟩
        rw [hnmj] at hx
        cases (Option.some.inj hx)
        rw [List.length_map] at hj
        walk_at "rd"
        refine ⟨rfl, iteT ?_⟩
        refine ⟨_, rfl, _, rfl, s, c, 2, _, rfl, st5, by omega, by decide, by decide, fun r H5 r0 r1 k5 st6 => ?_⟩
        refine ⟨_, _, rfl, rfl, by decide, fun p6 hp6 => ?_⟩
        have hy5 : H5 D = some (.lst ys) := k5.at nD hy
        have e6 := same_new hp6 (.tup [.str nm, .int (1 + r)])
        have n6 : ¬ plus (two s c) D p6 := fun q => q.elim (fun q => by subst q; rw [hy5] at hp6; cases hp6) (st6.tr.off hp6)
        have k56 : Kept (plus (two s c) D) H' _ := (k5.sub fun a h => Or.inr h).trans (Kept.of e6)
        refine q2 _ _ (e6 _ _ hy5) ⟨rws ++ [(nm, 1 + r)], ?_, ?_, ?_, ?_, ?_, nD, nd⟩
        · rw [List.map_append, h1, take_snoc hnmj]
          rfl
        · intro p hp
          rcases List.mem_append.mp hp with hp | hp
          · exact h2 p hp
          · rw [List.mem_singleton] at hp
            subst hp
            show 1 + r = 1 ∨ 1 + r = 2
            omega
        · have := st6.same e6
          refine Stm.kept (M := one D) this (fun a o q => ?_) (fun q => nD (.inl (show s = D from q).symm)) (fun q => nD (.inr (show c = D from q).symm))
          obtain ⟨n, q⟩ := hide_some q
          rw [hide_off n, upd_ne (show a ≠ D from n)]
          exact q
        · rw [plus_in]
          have a1 := DpAll.same k56 d5
          have a2 : Dp K (hide (plus (two s c) D) (upd H5 p6 (.tup [.str nm, .int (1 + r)]))) (.ref p6) (.tuple [.str nm, .int (1 + r)]) := .tup (.inl (.inl ((hide_off n6).trans upd_same))) (.cons (.str _) (.cons (.int _) .nil))
          have := DpAll.app a1 (.cons a2 .nil)
          unfold rowsD at this ⊢
          rw [List.map_append]
          exact this
        · exact (kk.trans k56).upd (.inl rfl)
      · obtain ⟨rws, h1, h2, st5, d5, kk, nD, nd⟩ := q
        rw [List.length_map, List.take_length] at h1
        have FL : Full rws := full_of (by rw [h1]; exact hnm) h2
        exact z1 _ _ ⟨D, rws, ⟨_, _, _, _, _, _, _, _, _, _, _, _, _, rfl⟩, st5.mono (by rw [List.length_map]; omega), FL, h2, .lst (.inl (.inl ((hide_off nD).trans hy))) (DpAll.same plus_down d5)⟩
    clear st2
    obtain ⟨lr, rws, ⟨u2, u4, u5, u6, u7, u8, u9, u10, u11, u12, u13, u14, u15, rfl⟩, st3, FL, hw12, hrd⟩ := hp3
    have good := good_of (wts_of FL hw12)
    generalize eT : tb (wtOf rws) 5 = T at good
    have TK : TOk (wtOf rws) T := by rw [← eT]; exact good.tok
    -- arities, known, words
    refine q_seq (fun σ' H' => ∃ la kd lw, (∃ u2 u7 u8 u9 u10 u11 u12 u13 u14 u15 : Option V, σ' = [some (.ref l), some (.ref s), u2, some (.ref lr), some (.ref la), some (.ref kd), some (.ref lw), u7, u8, u9, u10, u11, u12, u13, u14, u15, none, none, none]) ∧ H3 kd = none ∧ H3 lw = none ∧ Same H3 H' ∧ kd ≠ lw ∧ EnvAt K (plus (plus (two s c) kd) lw) H' (.ref lr) (.ref la) kd rws T ∧ H' lw = some (.lst [])) (fun Z1 z1 => ?_) (fun σ4 H4 hp4 => ?_)
    · walk_at "rd"
      refine ⟨by decide, fun t1 h1 => ⟨by decide, fun t2 h2 => ⟨by decide, fun t3 h3 => ⟨by decide, fun t4 h4 => ⟨by decide, fun la h5 => fun kd h6 => ⟨by decide, fun lw h7 => ?_⟩⟩⟩⟩⟩⟩
      have e1 := same_new h1 (.tup [.str "a", .int 0])
      have e2 := e1.trans (same_new h2 (.tup [.str "b", .int 0]))
      have e3 := e2.trans (same_new h3 (.tup [.str "f", .int 1]))
      have e4 := e3.trans (same_new h4 (.tup [.str "g", .int 2]))
      have e5 := e4.trans (same_new h5 (.lst [.ref t1, .ref t2, .ref t3, .ref t4]))
      have e6 := e5.trans (same_new h6 (.dK []))
      have e7 := e6.trans (same_new h7 (.lst []))
      have f5 := same_new h5 (.lst [.ref t1, .ref t2, .ref t3, .ref t4])
      have f6 := same_new h6 (.dK [])
      have f7 := same_new h7 (.lst [])
      have tr3 := st3.tr
      have d3 : Dp K (hide (two s c) (upd (upd (upd (upd (upd H3 t1 (.tup [.str "a", .int 0])) t2 (.tup [.str "b", .int 0])) t3 (.tup [.str "f", .int 1])) t4 (.tup [.str "g", .int 2])) la (.lst [.ref t1, .ref t2, .ref t3, .ref t4]))) (.ref la) (.list arD) := by
        refine .lst (.inl (.inl ((hide_off ((tr3.same e4).off h5)).trans upd_same))) (.cons ?_ (.cons ?_ (.cons ?_ (.cons ?_ .nil))))
        · exact .tup (.inl (.inl ((hide_off (tr3.off h1)).trans (f5 _ _ (same_new h4 _ _ _ (same_new h3 _ _ _ (same_new h2 _ _ _ upd_same))))))) (.cons (.str _) (.cons (.int _) .nil))
        · exact .tup (.inl (.inl ((hide_off ((tr3.same e1).off h2)).trans (f5 _ _ (same_new h4 _ _ _ (same_new h3 _ _ _ upd_same)))))) (.cons (.str _) (.cons (.int _) .nil))
        · exact .tup (.inl (.inl ((hide_off ((tr3.same e2).off h3)).trans (f5 _ _ (same_new h4 _ _ _ upd_same))))) (.cons (.str _) (.cons (.int _) .nil))
        · exact .tup (.inl (.inl ((hide_off ((tr3.same e3).off h4)).trans (f5 _ _ upd_same)))) (.cons (.str _) (.cons (.int _) .nil))
      have k1 : Same _ _ := plus_same (N := two s c) h6 f6
      have k2 : Same _ _ := plus_same (N := plus (two s c) kd) h7 f7
      have kd7 := f7 _ _ (show upd _ kd (.dK []) kd = some (.dK []) from upd_same)
      have nkw' : kd ≠ lw := fun q => by subst q; rw [upd_same] at h7; cases h7
      refine ⟨_, _, _, rfl, z1 _ _ ⟨la, kd, lw, ⟨_, _, _, _, _, _, _, _, _, _, rfl⟩, none_of_none e5 h6, none_of_none e6 h7, e7, nkw', ⟨?_, .inr (.inl rfl), ?_, ?_, ?_⟩, upd_same⟩⟩
      · exact plus_tr (plus_tr (tr3.same e7) kd7) upd_same
      · exact Dp.same (((hide_mono e5).trans k1).trans k2) hrd
      · exact Dp.same (k1.trans k2) d3
      · exact ⟨[], kd7, List.nodup_nil, (fun _ h => nomatch h), fun i v h => by cases h⟩
    obtain ⟨la, kd, lw, ⟨u2, u7, u8, u9, u10, u11, u12, u13, u14, u15, rfl⟩, hkd0, hlw0, e4, nkw, E4, hlw4⟩ := hp4
    have st4 := st3.same e4
    have nks : ¬ two s c kd := st3.tr.off hkd0
    have nws : ¬ two s c lw := st3.tr.off hlw0
    have sk1 : ¬ one kd s := fun q => nks (.inl (show s = kd from q).symm)
    have sk2 : ¬ one kd c := fun q => nks (.inr (show c = kd from q).symm)
    -- the words of all weights
    refine q_seq (fun σ' H' => (∃ u2 u7 u8 u9 u10 u11 u12 u13 u14 u15 : Option V, σ' = [some (.ref l), some (.ref s), u2, some (.ref lr), some (.ref la), some (.ref kd), some (.ref lw), u7, u8, u9, u10, u11, u12, u13, u14, u15, none, none, none]) ∧ Stm s c H' (5000 * i + 10) ∧ EnvAt K (plus (plus (two s c) kd) lw) H' (.ref lr) (.ref la) kd rws T ∧ ∃ ys, H' lw = some (.lst ys) ∧ DpAll K (hide (plus (plus (two s c) kd) lw) H') ys ((allW (wtOf rws)).map W.dat)) (fun Z1 z1 => ?_) (fun σ5 H5 hp5 => ?_)
    · refine rd_for ?_
      walk_at "rd"
      refine ⟨1, 5, rfl, by decide, ?_⟩
      refine forq (St := fun _ => True) (sp_range (lo := 1)) (fun j σ' H' => (∃ u2 u7 u8 u9 u10 u11 u12 u13 u14 u15 : Option V, σ' = [some (.ref l), some (.ref s), u2, some (.ref lr), some (.ref la), some (.ref kd), some (.ref lw), u7, u8, u9, u10, u11, u12, u13, u14, u15, none, none, none]) ∧ Stm s c H' (5000 * i + 10) ∧ EnvAt K (plus (plus (two s c) kd) lw) H' (.ref lr) (.ref la) kd rws T ∧ ∃ ys, H' lw = some (.lst ys) ∧ ys.length ≤ 100 * j ∧ DpAll K (hide (plus (plus (two s c) kd) lw) H') ys (((List.range j).flatMap fun (n : Nat) => T (1 + (n : Int))).map W.dat)) ⟨⟨_, _, _, _, _, _, _, _, _, _, rfl⟩, st4, E4, [], hlw4, Nat.zero_le _, .nil⟩ (fun _ _ _ _ => trivial) (fun j v σ' H0' H' hj q e hr' => ?_) (fun σ' H' q => ?_)
      · obtain ⟨⟨u2, u7, u8, u9, u10, u11, u12, u13, u14, u15, rfl⟩, st5, E5, ys, hlw5, ly5, d5⟩ := q
        obtain ⟨rfl, rfl⟩ := hr'
        have hj4 : j < 4 := hj
        walk_at "rd"
        refine ⟨_, rfl, .inl ⟨rfl, _, .inl (.inl hlw5)⟩, _, rfl, _, rfl, _, rfl, _, rfl, plus (plus (two s c) kd) lw, _, _, kd, rws, T, 1 + (j : Int), rfl, FL, TK, E5, by omega, by omega, by omega, fun H6 D ys6 E6 k6 hD d6 => ?_⟩
        have hlw6 : H6 lw = some (.lst ys) := k6.at (fun q => nkw (show lw = kd from q).symm) hlw5
        have lT := TK.len (1 + (j : Int)) (by omega) (by omega)
        have ly6 : ys6.length = (T (1 + (j : Int))).length := by have := DpAll.length d6; rw [List.length_map] at this; exact this
        have sub1 : ∀ a, one kd a → plus (plus (two s c) kd) lw a := fun a h => .inr (.inl h)
        refine ⟨lw, D, ys, ys6, rfl, rfl, hlw6, (hide_some hD).2, Nat.le_trans (show ys.length + ys6.length ≤ 1000 by omega) (by decide), ⟨_, _, _, _, _, _, _, _, _, _, rfl⟩, ?_, E6.upd (.inl rfl) (Ne.symm nkw), ys ++ ys6, upd_same, by rw [List.length_append]; omega, ?_⟩
        · refine Stm.kept (M := one lw) (st5.kept k6 sk1 sk2) (fun a o q => ?_) (fun q => nws (.inl (show s = lw from q).symm)) (fun q => nws (.inr (show c = lw from q).symm))
          obtain ⟨n, q⟩ := hide_some q
          rw [hide_off n, upd_ne (show a ≠ lw from n)]
          exact q
        · rw [plus_in, List.range_succ, List.flatMap_append, List.map_append]
          have := DpAll.app (DpAll.same (k6.sub sub1) d5) d6
          simpa using this
      · obtain ⟨h1, st5, E5, ys, hlw5, ly5, d5⟩ := q
        refine z1 _ _ ⟨h1, st5, E5, ys, hlw5, ?_⟩
        have : allW (wtOf rws) = (List.range 4).flatMap fun (n : Nat) => T (1 + (n : Int)) := by rw [← eT]; rfl
        rw [this]
        exact d5
    obtain ⟨⟨u2, u7, u8, u9, u10, u11, u12, u13, u14, u15, rfl⟩, st5, E5, ys5, hlw5, d5⟩ := hp5
    have ly5 : ys5.length = (allW (wtOf rws)).length := by have := DpAll.length d5; rw [List.length_map] at this; exact this
    -- mixed, the first 24
    refine q_seq (fun σ' H' => ∃ lw ws, (∃ u2 u4 u5 u7 u8 u9 u10 u11 u12 u13 u14 u15 : Option V, σ' = [some (.ref l), some (.ref s), u2, some (.ref lr), u4, u5, some (.ref lw), u7, u8, u9, u10, u11, u12, u13, u14, u15, none, none, none]) ∧ Stm s c H' (5000 * i + 200) ∧ Dp K (hide (two s c) H') (.ref lr) (.list (rowsD rws)) ∧ WordsAt K (two s c) H' lw ws ∧ ws.Nodup ∧ (∀ x ∈ ws, x ∈ allW (wtOf rws)) ∧ 0 < ws.length ∧ ws.length ≤ 24) (fun Z1 z1 => ?_) (fun σ6 H6 hp6 => ?_)
    · walk_at "rd"
      have gle := good.le
      refine ⟨_, rfl, _, rfl, s, c, lw, ys5, _, rfl, st5, by omega, nws, .inl (.inl hlw5), by omega, fun D ys H7 hperm hD0 k7 st7 hys => ?_⟩
      refine ⟨24, rfl, D, ys, rfl, .inl (.inl hys), fun p hp => ?_⟩
      have e7 := same_new hp (.lst (cutV ys none (some 24)))
      have dn : Same (hide (plus (plus (two s c) kd) lw) H5) (hide (two s c) H5) := fun a o q => plus_down _ _ (plus_down _ _ q)
      obtain ⟨ws, hws, dws⟩ := paired_perm hperm (dp_paired (DpAll.same dn d5))
      have k8 : Same (hide (two s c) H5) (hide (two s c) (upd H7 p (.lst (cutV ys none (some 24))))) := k7.trans (Kept.of e7)
      have lys : ys.length = ws.length := paired_len dws
      have ec : cutV ys none (some 24) = ys.take 24 := cut24 ys
      refine z1 _ _ ⟨p, ws.take 24, ⟨_, _, _, _, _, _, _, _, _, _, _, _, rfl⟩, (st7.same e7).mono (by omega), Dp.same (dn.trans k8) E5.rd, ⟨cutV ys none (some 24), (hide_off (st7.tr.off hp)).trans upd_same, ?_⟩, ?_, ?_, ?_, ?_⟩
      · rw [List.map_take]
        have := DpAll.take' 24 (DpAll.same k8 (paired_dp dws))
        rw [← ec] at this
        exact this
      · exact ((hws.nodup_iff).mpr good.nd).sublist (List.take_sublist _ _)
      · exact fun x hx => hws.mem_iff.mp (List.mem_of_mem_take hx)
      · have := good.ne
        rw [← hws.length_eq] at this
        rw [List.length_take]
        omega
      · rw [List.length_take]
        omega
    clear st3 hrd E4 hlw4 e4 st4 nks nws sk1 sk2 st5 E5 hlw5 d5 ly5 hkd0 hlw0 nkw
    obtain ⟨lw', ws, ⟨u2, u4, u5, u7, u8, u9, u10, u11, u12, u13, u14, u15, rfl⟩, st6, hrd6, hws6, wnd, wmem, wlen0, wlen⟩ := hp6
    have sm : Small 5 ws := fun x hx => by
      have := good.sm x (wmem x hx)
      omega
    -- the order, the words sorted
    refine q_seq (fun σ' H' => ∃ oa du, (∃ u2 u4 u5 u6 u7 u10 u11 u12 u13 u14 u15 : Option V, σ' = [some (.ref l), some (.ref s), u2, some (.ref lr), u4, u5, u6, u7, some (.ref oa), some (.ref du), u10, u11, u12, u13, u14, u15, none, none, none]) ∧ Stm s c H' (5000 * i + 200) ∧ Dp K (hide (two s c) H') (.ref lr) (.list (rowsD rws)) ∧ OrdAt C (hide (two s c) H') (.ref oa) (wtOf rws) (rkOf rws) ∧ WordsAt K (two s c) H' du (srtW (wtOf rws) (rkOf rws) ws)) (fun Z1 z1 => ?_) (fun σ7 H7 hp7 => ?_)
    · walk_at "rd"
      refine ⟨_, rfl, fun x dx hx hdx hne => ?_⟩
      have e1 := (same_new hdx (.own x)).trans (same_new (H := upd H6 dx (.own x)) (by rw [upd_ne (Ne.symm hne)]; exact hx) (.ins C dx []))
      refine ⟨x, dx, .ref lr, rws, H6, rfl, upd_same, hx, e1, Dp.same hide_same hrd6, FL.ok, fun H7 e7 hk => ⟨rfl, ?_⟩⟩
      obtain ⟨dw, dr, kw, kr, g1, g2, g3, g4⟩ := hk
      have ho := FL.ord g1 g2 g3 g4
      have st7 := st6.same e7
      refine ⟨_, rfl, _, rfl, two s c, .ref lr, lw', rws, ws, rfl, st7.tr, FL, Dp.same (hide_mono e7) hrd6, hws6.to (hide_mono e7), sm, by omega, fun H8 D e8 hD hwd => ⟨by decide, fun p hp => ?_⟩⟩
      have e9 := e8.trans (same_new hp (.tup [.ref x, .ref D]))
      exact ⟨p, _, rfl, .inl (.inl upd_same), rfl, _, _, rfl, _, _, rfl, rfl, z1 _ _ ⟨x, D, ⟨_, _, _, _, _, _, _, _, _, _, _, rfl⟩, st7.same e9, Dp.same (hide_mono (e7.trans e9)) hrd6, (ho.apart st7).same (hide_mono e9), hwd.to (hide_mono (same_new hp _))⟩⟩
    obtain ⟨up, hprm⟩ := srt_up (wtOf rws) (rkOf rws) FL.inj wnd
    obtain ⟨oa, du, ⟨u2, u4, u5, u6, u7, u10, u11, u12, u13, u14, u15, rfl⟩, st7, hrd7, ho7, hdu7⟩ := hp7
    have smd : Small 5 (srtW (wtOf rws) (rkOf rws) ws) := fun x hx => sm x (hprm.mem_iff.mp hx)
    have htd : ∀ x ∈ srtW (wtOf rws) (rkOf rws) ws, x.ht ≤ 3 := fun x hx => (good.sm x (wmem x (hprm.mem_iff.mp hx))).1
    have dlen : (srtW (wtOf rws) (rkOf rws) ws).length = ws.length := hprm.length_eq
    have inj := FL.inj
    have wtd : ∀ H d, H d = some (.dK (kws rws)) → WtAt H (.ref d) (wtOf rws) := fun H d h => FL.wtAt h
    generalize srtW (wtOf rws) (rkOf rws) ws = due at up hprm hdu7 smd dlen htd
    have FR := FL.rev
    obtain ⟨dys, hdu, ddu⟩ := hdu7.ex
    have ldu : dys.length = due.length := by have := DpAll.length ddu; rw [List.length_map] at this; exact this
    have hdu' := (hide_some hdu).2
    -- each word against all
    refine q_seq (fun σ' H' => (∃ u2 u4 u5 u6 u7 u10 u11 u12 u13 u14 u15 : Option V, σ' = [some (.ref l), some (.ref s), u2, some (.ref lr), u4, u5, u6, u7, some (.ref oa), some (.ref du), u10, u11, u12, u13, u14, u15, none, none, none]) ∧ Same H7 H') (fun Z1 z1 => ?_) (fun σ8 H8 hp8 => ?_)
    · refine rd_for ?_
      walk_at "rd"
      refine ⟨_, rfl, du, dys, rfl, .inl (.inl hdu'), ?_⟩
      refine forq (sp_enumL (K := K) (xs := dys)) (fun j σ' H' => (∃ u2 u4 u5 u6 u7 u10 u11 u12 u13 u14 u15 : Option V, σ' = [some (.ref l), some (.ref s), u2, some (.ref lr), u4, u5, u6, u7, some (.ref oa), some (.ref du), u10, u11, u12, u13, u14, u15, none, none, none]) ∧ Same H7 H') ⟨⟨_, _, _, _, _, _, _, _, _, _, _, rfl⟩, Same.refl _⟩ (fun j σ' H' q => .inl (.inl (q.2 _ _ hdu'))) (fun j v σ' H0' H' hj q e hr' => ?_) (fun σ' H' q => z1 _ _ q)
      obtain ⟨⟨u2, u4, u5, u6, u7, u10, u11, u12, u13, u14, u15, rfl⟩, e8⟩ := q
      obtain ⟨tp, wv, htp, rfl, rfl, hwv⟩ := hr'
      refine g_pair upd_same rfl ?_
      generalize upd H0' tp (.tup [.int (j : Nat), wv]) = H' at e
      have e9 := e8.trans e
      clear e8 e htp
      obtain ⟨d, hd1, hd2⟩ := DpAll.get ddu hwv
      obtain ⟨xw, hxw⟩ : ∃ xw, due[j]? = some xw := ⟨_, List.getElem?_eq_getElem (by omega)⟩
      rw [List.getElem?_map, hxw] at hd1
      cases (Option.some.inj hd1)
      have smx := smd xw (List.mem_of_getElem? hxw)
      have htx := htd xw (List.mem_of_getElem? hxw)
      have hj' : j < due.length := by omega
      refine q_seq (fun σ' H' => ∃ fo, (∃ u2 u4 u5 u6 u7 u13 u14 u15 : Option V, σ' = [some (.ref l), some (.ref s), u2, some (.ref lr), u4, u5, u6, u7, some (.ref oa), some (.ref du), some (.int (j : Nat)), some wv, some (.ref fo), u13, u14, u15, none, none, none]) ∧ Same H7 H' ∧ H' fo = some (.lst ((due.map (W.cmp (wtOf rws) (rkOf rws) xw)).map V.str))) (fun Z2 z2 => ?_) (fun σ9 H9 hp9 => ?_)
      · walk_at "rd"
        refine rd_lc ?_
        walk_at "rd"
        refine ⟨_, rfl, du, rfl, ⟨_, .inl (.inl (e9 _ _ hdu'))⟩, ?_⟩
        refine lcp (K := K) (N := two s c) (st7.tr.same e9) (src_list (.inl (.inl (e9 _ _ hdu')))) (by omega) (fun _ => true) (fun q => (fun w => PyData.str (W.cmp (wtOf rws) (rkOf rws) xw w)) (due.getD q .a)) (fun q y Hq N7 Q2 Q3 hq e7 r7 tr7 hs7 q2 q3 => ?_) (fun Dl Hq ys7 nD e7 hy7 da => ?_)
        · have hsq : Same (hide (two s c) H7) (hide N7 Hq) := (hide_mono e9).trans hs7
          obtain ⟨d7, hd7, hy7⟩ := DpAll.get (DpAll.same hsq ddu) r7
          obtain ⟨zw, hz⟩ : ∃ zw, due[q]? = some zw := ⟨_, List.getElem?_eq_getElem (by omega)⟩
          rw [List.getElem?_map, hz] at hd7
          cases (Option.some.inj hd7)
          have smw := smd zw (List.mem_of_getElem? hz)
          walk_at "rd"
          refine ⟨rfl, iteT ?_⟩
          refine ⟨_, rfl, _, rfl, _, rfl, N7, .ref oa, wv, y, xw, zw, _, _, rfl, tr7, ho7.same hsq, Dp.same hsq hd2, hy7, smx.1, smw.1, fun H8 e8 => q2 _ _ e8 rfl ?_⟩
          rw [List.getD_eq_getElem?_getD, hz]
          exact .str _
        · have ed := map_range due (fun w => PyData.str (W.cmp (wtOf rws) (rkOf rws) xw w)) .a
          rw [ldu, ed] at da
          have e2 : due.map (fun w => PyData.str (W.cmp (wtOf rws) (rkOf rws) xw w)) = (due.map (W.cmp (wtOf rws) (rkOf rws) xw)).map PyData.str := by rw [List.map_map]; rfl
          rw [e2] at da
          have ey := DpAll.strs da
          exact z2 _ _ ⟨Dl, ⟨_, _, _, _, _, _, _, _, rfl⟩, e9.trans e7, by rw [hy7, ey]⟩
      obtain ⟨fo, ⟨u2, u4, u5, u6, u7, u13, u14, u15, rfl⟩, e9', hfo⟩ := hp9
      refine q_when false (fun Q1 q1 => ?_) (fun hb => nomatch hb) (fun _ H10 e10 => ?_)
      · walk_at "rd"
        refine ⟨_, rfl, by decide, fun p1 h1 => ⟨_, rfl, ?_⟩⟩
        refine ⟨p1, (j : Nat), _, rfl, rfl, upd_same, by omega, by omega, Nat.le_trans (show 1 * ((j : Nat) : Int).toNat ≤ 1000 by omega) (by decide), fun p2 h2 => ⟨by decide, fun p3 h3 => ?_⟩⟩
        have f1 := same_new h1 (.lst [.str "above"])
        have f2 := same_new h2 (.lst (List.replicate ((j : Nat) : Int).toNat [V.str "above"]).flatten)
        have f3 := same_new h3 (.lst [.str "same"])
        refine ⟨p2, p3, _, _, rfl, rfl, f3 _ _ upd_same, upd_same, Nat.le_trans (show _ ≤ 2000 from ?_) (by decide), fun p4 h4 => ⟨by decide, fun p5 h5 => ?_⟩⟩
        · rw [List.length_flatten]
          simp
          omega
        have f4 := same_new h4 (.lst ((List.replicate ((j : Nat) : Int).toNat [V.str "above"]).flatten ++ [.str "same"]))
        have f5 := same_new h5 (.lst [.str "below"])
        have g14 := ((f1.trans f2).trans f3).trans (f4.trans f5)
        refine ⟨_, rfl, du, dys, rfl, .inl (.inl (.inl (g14 _ _ (e9' _ _ hdu')))), _, rfl, _, _, rfl, rfl, _, _, rfl, rfl, ?_⟩
        refine ⟨p5, _, _, rfl, rfl, upd_same, by omega, by omega, Nat.le_trans (show 1 * (((dys.length : Nat) : Int) - (j : Nat) - 1).toNat ≤ 1000 by omega) (by decide), fun p6 h6 => ?_⟩
        have f6 := same_new h6 (.lst (List.replicate (((dys.length : Nat) : Int) - (j : Nat) - 1).toNat [V.str "below"]).flatten)
        refine ⟨p4, p6, _, _, rfl, rfl, (f5.trans f6) _ _ upd_same, upd_same, Nat.le_trans (show _ ≤ 4000 from ?_) (by decide), fun p7 h7 => ?_⟩
        · rw [List.length_append, List.length_flatten, List.length_flatten]
          simp
          omega
        have f7 := same_new h7 (.lst ((List.replicate ((j : Nat) : Int).toNat [V.str "above"]).flatten ++ [V.str "same"] ++ (List.replicate (((dys.length : Nat) : Int) - (j : Nat) - 1).toNat [V.str "below"]).flatten))
        have gall := (g14.trans f6).trans f7
        refine ⟨fo, p7, due.map (W.cmp (wtOf rws) (rkOf rws) xw), (List.replicate j ("above" : Str) ++ [("same" : Str)]) ++ List.replicate (due.length - j - 1) ("below" : Str), rfl, .inl (.inl (gall _ _ hfo)), .inl (.inl ?_), by rw [List.length_map]; omega, fun Hf ef => ⟨_, rfl, ?_⟩⟩
        · rw [upd_same, rep_flat, rep_flat, List.map_append, List.map_append]
          rw [show (((dys.length : Nat) : Int) - (j : Nat) - 1).toNat = due.length - j - 1 by omega, Int.toNat_natCast]
          rfl
        · rw [decide_eq_true (cmp_row (wtOf rws) (rkOf rws) inj up hxw)]
          exact q1 _ (gall.trans ef)
      have e10' := e9'.trans e10
      refine q_seq (fun σ' H' => ∃ ao, (∃ u2 u4 u5 u6 u7 u14 u15 : Option V, σ' = [some (.ref l), some (.ref s), u2, some (.ref lr), u4, u5, u6, u7, some (.ref oa), some (.ref du), some (.int (j : Nat)), some wv, some (.ref fo), some (.ref ao), u14, u15, none, none, none]) ∧ Same H7 H' ∧ H' ao = some (.lst ((List.replicate j ("above" : Str)).map V.str))) (fun Z2 z2 => ?_) (fun σ11 H11 hp11 => ?_)
      · walk_at "rd"
        refine rd_lc ?_
        walk_at "rd"
        refine ⟨_, rfl, _, rfl, _, rfl, du, dys, rfl, .inl (.inl (e10' _ _ hdu')), fun p hp => ?_⟩
        rw [cutj dys (by omega)]
        have ep := same_new hp (.lst (dys.take j))
        have ee := e10'.trans ep
        refine ⟨p, rfl, ⟨_, .inl (.inl upd_same)⟩, ?_⟩
        refine lcp (K := K) (N := two s c) (st7.tr.same ee) (src_list (.inl (.inl upd_same))) (by rw [List.length_take]; omega) (fun _ => true) (fun q => (fun w => PyData.str (W.cmp (wtOf rws) (rkOf rws) (.p xw) (.p w))) ((due.take j).getD q .a)) (fun q y Hq N7 Q2 Q3 hq e7 r7 tr7 hs7 q2 q3 => ?_) (fun Dl Hq ys7 nD e7 hy7 da => ?_)
        · have hsq : Same (hide (two s c) H7) (hide N7 Hq) := (hide_mono ee).trans hs7
          have ddt : DpAll K (hide N7 Hq) (dys.take j) ((due.take j).map W.dat) := by
            rw [List.map_take]
            exact DpAll.take' j (DpAll.same hsq ddu)
          obtain ⟨d7, hd7, hy7⟩ := DpAll.get ddt r7
          rw [List.length_take] at hq
          obtain ⟨zw, hz⟩ : ∃ zw, (due.take j)[q]? = some zw := ⟨_, List.getElem?_eq_getElem (by rw [List.length_take]; omega)⟩
          rw [List.getElem?_map, hz] at hd7
          cases (Option.some.inj hd7)
          have mz := List.mem_of_mem_take (List.mem_of_getElem? hz)
          have htz := htd zw mz
          walk_at "rd"
          refine ⟨rfl, iteT ?_⟩
          refine ⟨_, rfl, _, rfl, by decide, fun p1 h1 => ⟨_, rfl, by decide, fun p2 h2 => ?_⟩⟩
          have f1 := same_new h1 (.tup [.str "p", wv])
          have f2 := same_new h2 (.tup [.str "p", y])
          have n1 : ¬ N7 p1 := tr7.off h1
          have n2 : ¬ N7 p2 := (tr7.same f1).off h2
          refine ⟨N7, .ref oa, .ref p1, .ref p2, .p xw, .p zw, _, _, rfl, tr7.same (f1.trans f2), (ho7.same hsq).same (hide_mono (f1.trans f2)), ?_, ?_, show xw.ht + 1 < 5 by omega, show zw.ht + 1 < 5 by omega, fun H8 e8 => q2 _ _ ((f1.trans f2).trans e8) rfl ?_⟩
          · exact .tup (.inl (.inl ((hide_off n1).trans (f2 _ _ upd_same)))) (.cons (.str _) (.cons (Dp.same (hsq.trans (hide_mono (f1.trans f2))) hd2) .nil))
          · exact .tup (.inl (.inl ((hide_off n2).trans upd_same))) (.cons (.str _) (.cons (Dp.same (hide_mono (f1.trans f2)) hy7) .nil))
          · rw [List.getD_eq_getElem?_getD, hz]
            exact .str _
        · have ed := map_range (due.take j) (fun w => PyData.str (W.cmp (wtOf rws) (rkOf rws) (.p xw) (.p w))) .a
          have lt : (dys.take j).length = (due.take j).length := by rw [List.length_take, List.length_take, ldu]
          rw [lt, ed] at da
          have e2 : (due.take j).map (fun w => PyData.str (W.cmp (wtOf rws) (rkOf rws) (.p xw) (.p w))) = ((due.take j).map (fun w => W.cmp (wtOf rws) (rkOf rws) (.p xw) (.p w))).map PyData.str := by rw [List.map_map]; rfl
          rw [e2, cmp_atoms (wtOf rws) (rkOf rws) up hxw] at da
          have ey := DpAll.strs da
          exact z2 _ _ ⟨Dl, ⟨_, _, _, _, _, _, _, rfl⟩, ee.trans e7, by rw [hy7, ey]⟩
      obtain ⟨ao, ⟨u2, u4, u5, u6, u7, u14, u15, rfl⟩, e11, hao⟩ := hp11
      refine if_t false (fun Q1 q1 => ?_) (fun hb => nomatch hb) (fun _ H12 e12 => ?_)
      · walk_at "rd"
        refine ⟨_, rfl, by decide, fun p1 h1 => ⟨_, rfl, ?_⟩⟩
        refine ⟨p1, (j : Nat), _, rfl, rfl, upd_same, by omega, by omega, Nat.le_trans (show 1 * ((j : Nat) : Int).toNat ≤ 1000 by omega) (by decide), fun p2 h2 => ?_⟩
        rw [rep_flat, Int.toNat_natCast]
        have f1 := same_new h1 (.lst [.str "above"])
        have f2 := same_new h2 (.lst ((List.replicate j ("above" : Str)).map V.str))
        have okA : ∀ n ∈ List.replicate j ("above" : Str), PyData.strOk n = true := fun n hn => by
          rw [(List.mem_replicate.mp hn).2]
          decide +kernel
        refine ⟨_, _, .lst (.inl (.inl ((f1.trans f2) _ _ hao))) (DpAll.of_strs K _ _), .lst (.inl (.inl upd_same)) (DpAll.of_strs K _ _), strs_shaped _ okA, strs_shaped _ okA, _, rfl, ?_⟩
        rw [eqv_strs]
        exact q1 _ (f1.trans f2)
      · exact ⟨⟨_, _, _, _, _, _, _, _, _, _, _, rfl⟩, e11.trans e12⟩
    obtain ⟨⟨u2, u4, u5, u6, u7, u10, u11, u12, u13, u14, u15, rfl⟩, e8⟩ := hp8
    -- the weights
    obtain ⟨lra, xr, elr, hlr, dxr⟩ := list_at hrd7
    cases elr
    obtain ⟨ps, rfl, hps⟩ := rows_addr dxr
    have hlr' := hide_same.seq hlr
    have hps' := paired_imp (fun _ _ q => Same.tupL hide_same q) hps
    refine q_seq (fun σ' H' => ∃ we, (∃ u2 u4 u5 u6 u7 u10 u11 u12 u13 u15 : Option V, σ' = [some (.ref l), some (.ref s), u2, some (.ref lr), u4, u5, u6, u7, some (.ref oa), some (.ref du), u10, u11, u12, u13, some (.ref we), u15, none, none, none]) ∧ Same H7 H' ∧ H' we = some (.lst ((due.map (W.wgt (wtOf rws))).map V.int))) (fun Z1 z1 => ?_) (fun σ9 H9 hp9 => ?_)
    · walk_at "rd"
      refine rd_lc ?_
      walk_at "rd"
      refine ⟨_, rfl, du, rfl, ⟨_, .inl (.inl (e8 _ _ hdu'))⟩, ?_⟩
      refine lcp (K := K) (N := two s c) (st7.tr.same e8) (src_list (.inl (.inl (e8 _ _ hdu')))) (by omega) (fun _ => true) (fun q => (fun w => PyData.int (W.wgt (wtOf rws) w)) (due.getD q .a)) (fun q y Hq N7 Q2 Q3 hq e7 r7 tr7 hs7 q2 q3 => ?_) (fun Dl Hq ys7 nD e7 hy7 da => ?_)
      · have hsq : Same (hide (two s c) H7) (hide N7 Hq) := (hide_mono e8).trans hs7
        obtain ⟨d7, hd7, hy7⟩ := DpAll.get (DpAll.same hsq ddu) r7
        obtain ⟨zw, hz⟩ : ∃ zw, due[q]? = some zw := ⟨_, List.getElem?_eq_getElem (by omega)⟩
        rw [List.getElem?_map, hz] at hd7
        cases (Option.some.inj hd7)
        have smw := smd zw (List.mem_of_getElem? hz)
        have e87 := e8.trans e7
        walk_at "rd"
        refine ⟨rfl, iteT ?_⟩
        refine ⟨_, rfl, lr, ps, kws rws, rfl, e87.seq hlr', paired_imp (fun _ _ q => Same.tupL e87 q) hps', fun dp hdp => ⟨_, rfl, ?_⟩⟩
        rw [mergeK_rows FL.ok]
        have f1 := same_new hdp (.dK (kws rws))
        refine ⟨.ref dp, y, zw, wtOf rws, rfl, wtd _ _ upd_same, Dp.same f1 (Dp.same hide_same hy7), smw.1, fun H8 e8 => q2 _ _ (f1.trans e8) rfl ?_⟩
        rw [List.getD_eq_getElem?_getD, hz]
        exact .int _
      · have ed := map_range due (fun w => PyData.int (W.wgt (wtOf rws) w)) .a
        rw [ldu, ed] at da
        have e2 : due.map (fun w => PyData.int (W.wgt (wtOf rws) w)) = (due.map (W.wgt (wtOf rws))).map PyData.int := by rw [List.map_map]; rfl
        rw [e2] at da
        have ey := DpAll.ints da
        exact z1 _ _ ⟨Dl, ⟨_, _, _, _, _, _, _, _, _, _, rfl⟩, e8.trans e7, by rw [hy7, ey]⟩
    obtain ⟨we, ⟨u2, u4, u5, u6, u7, u10, u11, u12, u13, u15, rfl⟩, e9, hwe⟩ := hp9
    have subN : ∀ a, two s c a → two s c a := fun _ h => h
    refine q_seq (fun σ' H' => (∃ u2 u4 u5 u6 u7 u10 u11 u12 u13 u14 u15 : Option V, σ' = [some (.ref l), some (.ref s), u2, some (.ref lr), u4, u5, u6, u7, some (.ref oa), some (.ref du), u10, u11, u12, u13, u14, u15, none, none, none]) ∧ Kept (two s c) H7 H' ∧ Stm s c H' (5000 * i + 1200)) (fun Z1 z1 => ?_) (fun σ10 H10 hp10 => ?_)
    · walk_at "rd"
      refine ⟨_, rfl, _, rfl, we, _, rfl, .inl (.inl hwe), by rw [List.length_map]; omega, fun ns' p hpm hpw hp => ?_⟩
      have ens : ns' = due.map (W.wgt (wtOf rws)) := sorted_eq hpm hpw (wts_up (wtOf rws) (rkOf rws) up)
      subst ens
      have f1 := same_new hp (.lst ((due.map (W.wgt (wtOf rws))).map V.int))
      refine ⟨_, _, .lst (.inl (.inl (f1 _ _ hwe))) (DpAll.of_ints K _ _), .lst (.inl (.inl upd_same)) (DpAll.of_ints K _ _), ints_shaped _, ints_shaped _, _, rfl, ?_⟩
      rw [eqv_ints]
      refine iteF ?_
      have ee := e9.trans f1
      refine ⟨_, rfl, _, rfl, _, rfl, two s c, s, c, .ref oa, du, wtOf rws, rkOf rws, due, 5000 * i + 200, rfl, st7.tr.same ee, .inl rfl, .inr rfl, st7.same ee, by omega, ho7.same (hide_mono ee), inj, hdu7.to (hide_mono ee), smd, by omega, by omega, up, fun r H10 hr10 k10 st10 => ?_⟩
      have ndu : ¬ two s c du := (hide_some hdu).1
      refine ⟨_, rfl, du, dys, rfl, .inl (.inl (.inl (k10.at ndu (ee _ _ hdu')))), _, _, rfl, rfl, _, rfl, ?_⟩
      rw [decide_eq_false (show ¬ ((dys.length : Nat) : Int) < r by omega)]
      refine iteF ?_
      exact z1 _ _ ⟨⟨_, _, _, _, _, _, _, _, _, _, _, rfl⟩, (Kept.of ee).trans k10, st10.mono (by omega)⟩
    obtain ⟨⟨u2, u4, u5, u6, u7, u10, u11, u12, u13, u14, u15, rfl⟩, k10, st10⟩ := hp10
    have ho10 := ho7.same k10
    have ddu10 := DpAll.same k10 ddu
    have hdu10 : H10 du = some (.lst dys) := k10.at (hide_some hdu).1 hdu'
    -- the order of the reversed rows
    refine q_seq (fun σ' H' => ∃ ob, (∃ u2 u4 u5 u6 u7 u10 u11 u12 u13 u14 : Option V, σ' = [some (.ref l), some (.ref s), u2, some (.ref lr), u4, u5, u6, u7, some (.ref oa), some (.ref du), u10, u11, u12, u13, u14, some (.ref ob), none, none, none]) ∧ Same H10 H' ∧ OrdAt C (hide (two s c) H') (.ref ob) (wtOf rws.reverse) (rkOf rws.reverse)) (fun Z1 z1 => ?_) (fun σ11 H11 hp11 => ?_)
    · walk_at "rd"
      refine ⟨_, rfl, lr, _, rfl, hide_same.seq (k10.seq hlr), fun p hp x dx hx hdx hne => ?_⟩
      have f0 := same_new hp (.lst (ps.map V.ref).reverse)
      have e1 := (same_new hdx (.own x)).trans (same_new (H := upd (upd H10 p (.lst (ps.map V.ref).reverse)) dx (.own x)) (by rw [upd_ne (Ne.symm hne)]; exact hx) (.ins C dx []))
      have dr : Dp K (upd H10 p (.lst (ps.map V.ref).reverse)) (.ref p) (.list (rowsD rws.reverse)) := by
        refine .lst (.inl (.inl upd_same)) ?_
        have := dp_rev (DpAll.same (hide_same.trans f0) (DpAll.same k10 dxr))
        unfold rowsD at this ⊢
        rw [List.map_reverse]
        exact this
      refine ⟨x, dx, .ref p, rws.reverse, _, rfl, upd_same, hx, e1, dr, FR.ok, fun H7 e7 hk => ⟨rfl, ?_⟩⟩
      obtain ⟨dw, dr, kw, kr, g1, g2, g3, g4⟩ := hk
      have ho := FR.ord g1 g2 g3 g4
      have ee := f0.trans e7
      exact z1 _ _ ⟨x, ⟨_, _, _, _, _, _, _, _, _, _, rfl⟩, ee, ho.apart (st10.same ee)⟩
    obtain ⟨ob, ⟨u2, u4, u5, u6, u7, u10, u11, u12, u13, u14, rfl⟩, e11, hob⟩ := hp11
    have ho11 := ho10.same (hide_mono e11)
    have hdu11 := e11 _ _ hdu10
    have ddu11 := DpAll.same (hide_mono (N := two s c) e11) ddu10
    have st11 := st10.same e11
    obtain ⟨x0, hx0⟩ : ∃ x0, due[0]? = some x0 := ⟨_, List.getElem?_eq_getElem (by omega)⟩
    obtain ⟨x9, hx9⟩ : ∃ x9, due[due.length - 1]? = some x9 := ⟨_, List.getElem?_eq_getElem (by omega)⟩
    obtain ⟨v0, hv0⟩ : ∃ v0, dys[0]? = some v0 := ⟨_, List.getElem?_eq_getElem (by omega)⟩
    obtain ⟨v9, hv9⟩ : ∃ v9, dys[dys.length - 1]? = some v9 := ⟨_, List.getElem?_eq_getElem (by omega)⟩
    refine q_seq (fun σ' H' => ∃ fo X, (∃ u2 u4 u5 u6 u7 u10 u11 u13 u14 u15 : Option V, σ' = [some (.ref l), some (.ref s), u2, some (.ref lr), u4, u5, u6, u7, some (.ref oa), some (.ref du), u10, u11, some (.ref fo), u13, u14, u15, none, none, none]) ∧ Same H11 H' ∧ H' fo = some (.lst (([W.cmp (wtOf rws) (rkOf rws) x0 x9, X, W.cmp (wtOf rws) (rkOf rws) x0 x9] : List Str).map V.str))) (fun Z1 z1 => ?_) (fun σ12 H12 hp12 => ?_)
    · walk_at "rd"
      refine rd_lc ?_
      walk_at "rd"
      refine ⟨_, rfl, _, rfl, _, rfl, by decide, fun p hp => ⟨p, rfl, ⟨[.ref oa, .ref ob, .ref oa], .inl (.inl upd_same)⟩, ?_⟩⟩
      have f0 := same_new hp (.tup [.ref oa, .ref ob, .ref oa])
      refine lcp (K := K) (N := two s c) (st11.tr.same f0) (src_tup (xs := [.ref oa, .ref ob, .ref oa]) (.inl (.inl upd_same))) (show 3 ≤ 100000 by decide) (fun _ => true) (fun q => PyData.str (if q = 1 then W.cmp (wtOf rws.reverse) (rkOf rws.reverse) x0 x9 else W.cmp (wtOf rws) (rkOf rws) x0 x9)) (fun q y Hq N7 Q2 Q3 hq e7 r7 tr7 hs7 q2 q3 => ?_) (fun Dl Hq ys7 nD e7 hy7 da => ?_)
      · have hsq : Same (hide (two s c) H11) (hide N7 Hq) := (hide_mono f0).trans hs7
        have ee := f0.trans e7
        have hq3 : q < 3 := hq
        obtain ⟨wtq, rkq, hoq, hcq⟩ : ∃ wtq rkq, OrdAt C (hide N7 Hq) y wtq rkq ∧ W.cmp wtq rkq x0 x9 = (if q = 1 then W.cmp (wtOf rws.reverse) (rkOf rws.reverse) x0 x9 else W.cmp (wtOf rws) (rkOf rws) x0 x9) := by
          match q, hq3, r7 with
          | 0, _, r7 => cases r7; exact ⟨_, _, ho11.same hsq, rfl⟩
          | 1, _, r7 => cases r7; exact ⟨_, _, hob.same hsq, rfl⟩
          | 2, _, r7 => cases r7; exact ⟨_, _, ho11.same hsq, rfl⟩
        obtain ⟨d0, hd0, hy0⟩ := DpAll.get (DpAll.same hsq ddu11) hv0
        obtain ⟨d9, hd9, hy9⟩ := DpAll.get (DpAll.same hsq ddu11) hv9
        rw [List.getElem?_map, hx0] at hd0
        rw [ldu, List.getElem?_map, hx9] at hd9
        cases (Option.some.inj hd0)
        cases (Option.some.inj hd9)
        have m0 := smd x0 (List.mem_of_getElem? hx0)
        have m9 := smd x9 (List.mem_of_getElem? hx9)
        have hduq := ee _ _ hdu11
        walk_at "rd"
        refine ⟨rfl, iteT ?_⟩
        refine ⟨_, rfl, _, rfl, du, dys, 0, v0, rfl, rfl, .inl (.inl hduq), atI_nat (j := 0) hv0, _, rfl, 1, rfl, du, dys, -1, v9, rfl, rfl, .inl (.inl hduq), atI_last (by omega) hv9, ?_⟩
        refine ⟨N7, y, v0, v9, x0, x9, wtq, rkq, rfl, tr7, hoq, hy0, hy9, m0.1, m9.1, fun H8 e8 => q2 _ _ e8 rfl ?_⟩
        rw [hcq]
        exact .str _
      · have e3 : ((List.range ([V.ref oa, .ref ob, .ref oa] : List V).length).filter (fun _ => true)).map (fun q => PyData.str (if q = 1 then W.cmp (wtOf rws.reverse) (rkOf rws.reverse) x0 x9 else W.cmp (wtOf rws) (rkOf rws) x0 x9)) = ([W.cmp (wtOf rws) (rkOf rws) x0 x9, W.cmp (wtOf rws.reverse) (rkOf rws.reverse) x0 x9, W.cmp (wtOf rws) (rkOf rws) x0 x9] : List Str).map PyData.str := rfl
        rw [e3] at da
        have ey := DpAll.strs da
        exact z1 _ _ ⟨Dl, _, ⟨_, _, _, _, _, _, _, _, _, _, rfl⟩, f0.trans e7, by rw [hy7, ey]⟩
    obtain ⟨fo, X, ⟨u2, u4, u5, u6, u7, u10, u11, u13, u14, u15, rfl⟩, e12, hfo⟩ := hp12
    refine if_t false (fun Q1 q1 => ?_) (fun hb => nomatch hb) (fun _ H13 e13 => ?_)
    · have hdu12 := e12 _ _ hdu11
      walk_at "rd"
      refine ⟨_, rfl, du, dys, rfl, .inl (.inl (.inl hdu12)), _, _, rfl, rfl, _, rfl, ?_⟩
      refine ite_b (fun hb => ?_) (fun hb => q1 _ (Same.refl _))
      have h1 : (1 : Int) < (dys.length : Nat) := of_decide_eq_true hb
      have ebel : W.cmp (wtOf rws) (rkOf rws) x0 x9 = ("below" : Str) := cmp_down _ _ inj (up_at _ _ up hx0 hx9 (by omega))
      rw [ebel] at hfo
      refine ⟨_, rfl, fo, .str "below", .str X, .str "below", rfl, .inl (.inl hfo), fun p hp => ⟨by decide, fun p2 hp2 => ?_⟩⟩
      have f1 := same_new hp (.lst [.str "below", .str "below"])
      have f2 := same_new hp2 (.lst [.str "below"])
      refine ⟨p2, 2, _, rfl, rfl, upd_same, by decide, by decide, by decide, fun p3 hp3 => ?_⟩
      have f3 := same_new hp3 (.lst (List.replicate (2 : Int).toNat [V.str "below"]).flatten)
      refine ⟨p, p3, ["below", "below"], ["below", "below"], rfl, .inl (.inl ((f2.trans f3) _ _ upd_same)), .inl (.inl upd_same), by decide, fun Hf ef => ⟨_, rfl, ?_⟩⟩
      rw [decide_eq_true rfl]
      exact q1 _ (((f1.trans f2).trans f3).trans ef)
    · exact ⟨_, _, _, _, _, _, _, _, _, _, _, _, _, _, rfl, (st11.same (e12.trans e13)).mono (by omega)⟩
end
end K29

-- text: End0
set_option linter.all false
set_option maxRecDepth 100000
set_option maxHeartbeats 4000000
namespace K29
open PySem PySem.Spec PyProof.Rows L2 DB
local macro_rules | `(tactic| walk_at "rd") => `(tactic| (dsimp only [cxOf, Cx.nox, L2.start, tRet, tRetN, tCB, tCons, tNil, tC, tVar, tTup, tLst, tB, tTest, tAnd, tOr, tNot, tAndV, tOrV, tNotV, tIfS, tIf, tSeq, tNext, tDrop, tOp, tUn, tAsg, gName, gSub, tSl, tPart, tNoPart, tCall, tPar, tBM, tChain, tYes, StX.tStar, tFld, tNotN, tIsN, tDNotIn, tDIn, tDGet, tDGet2, tDNewK, List.length_cons, List.length_nil, List.set_cons_zero, List.set_cons_succ, List.nil_append, List.cons_append, List.append_nil]))
section
variable {P : Program} {w : World} {K : PySem.W.Frag} {mg : Str → Option Value} {base : Heap}

structure Fns (K : PySem.W.Frag) (mg : Str → Option Value) (C : Addr) : Prop where
  d_is_list : Def K mg "is_list" st_is_list ["thing"]
  d_is_integer : Def K mg "is_integer" st_is_integer ["thing"]
  d_is_name : Def K mg "is_name" st_is_name ["thing"]
  d_is_variable : Def K mg "is_variable" st_is_variable ["thing"]
  d_as_word : Def K mg "as_word" st_as_word ["thing"]
  d_checked_word : Def K mg "checked_word" st_checked_word ["thing"]
  d_checked_order : Def K mg "checked_order" st_checked_order ["order"]
  d_first_without : Def K mg "first_without" st_first_without ["order", "word"]
  d_weight_in : Def K mg "weight_in" st_weight_in ["order", "word"]
  d_counted : Def K mg "counted" st_counted ["word", "known"]
  d_is_above : Def K mg "is_above" st_is_above ["order", "one", "other"]
  d_compare_in : Def K mg "compare_in" st_compare_in ["order", "one", "other"]
  d_compare : Def K mg "compare" st_compare ["order", "one", "other"]
  d__law_d_parts : Def K mg "_law_d_parts" st__law_d_parts ["word"]
  d__law_d_weight : Def K mg "_law_d_weight" st__law_d_weight ["weights", "word"]
  d__law_d_above : Def K mg "_law_d_above" st__law_d_above ["rows", "one", "other"]
  d__law_start : Def K mg "_law_start" st__law_start ["script"]
  d__law_draw : Def K mg "_law_draw" st__law_draw ["stream", "many"]
  d__law_pick : Def K mg "_law_pick" st__law_pick ["stream", "some"]
  d__law_mixed : Def K mg "_law_mixed" st__law_mixed ["stream", "some"]
  d__law_same : Def K mg "_law_same" st__law_same ["found", "due"]
  d__law_of_weight : Def K mg "_law_of_weight" st__law_of_weight ["rows", "arities", "weight", "known"]
  d__law_rows_of : Def K mg "_law_rows_of" st__law_rows_of ["rows", "arities", "many", "weight", "known"]
  d__law_sorted : Def K mg "_law_sorted" st__law_sorted ["rows", "words"]
  d__law_down : Def K mg "_law_down" st__law_down ["stream", "order", "words"]
  d_law : Def K mg "law" st_law ["script"]
  d_init : InitDef K C st_Order___init__

theorem chain (G : Glob K mg) {C : Addr} (T : OTxt K mg C) (D : Fns K mg C) {f : Addr} {fd : FuncData} (F : Fun K "law" "law" st_law f fd) : FnOk P w K mg base CX0 16 f fd ["script"] (spLaw K) := by
  have c_is_list : Callee P w K mg base 1 "is_list" ["thing"] (spIsList K) := ok_is_list G D.d_is_list
  have c_is_integer : Callee P w K mg base 1 "is_integer" ["thing"] (spIsInteger K) := ok_is_integer G D.d_is_integer
  have c_is_name : Callee P w K mg base 1 "is_name" ["thing"] (spIsName K) := ok_is_name G D.d_is_name
  have c_is_variable : Callee P w K mg base 1 "is_variable" ["thing"] (spIsVariable K) := ok_is_variable G D.d_is_variable
  have c_as_word : Callee P w K mg base 6 "as_word" ["thing"] (spAsWord K 5) := ok_as_word G D.d_as_word c_is_variable c_is_list c_is_name 5 (by decide)
  have c_checked_word : Callee P w K mg base 7 "checked_word" ["thing"] (spAsWord K 5) := ok_checked_word D.d_checked_word c_as_word
  have c_checked_order : Callee P w K mg base 1 "checked_order" ["order"] (spCheckedOrder C) := ok_checked_order G T D.d_checked_order
  have c_first_without := ok_first_without (P := P) (w := w) (base := base) G T D.d_first_without 5
  have c_weight_in := ok_weight_in (P := P) (w := w) (base := base) G T D.d_weight_in 5
  have c_counted := ok_counted (P := P) (w := w) (base := base) G D.d_counted 5
  have c_is_above : Callee P w K mg base 12 "is_above" ["order", "one", "other"] (spIsAbove K C 5) := ok_is_above G T D.d_is_above (M := 5) (by decide) c_counted c_weight_in 5 (Nat.le_refl _)
  have c_compare_in : Callee P w K mg base 13 "compare_in" ["order", "one", "other"] (spCompareIn K C 5) := ok_compare_in D.d_compare_in (by decide) c_is_above
  have c_compare : Callee P w K mg base 14 "compare" ["order", "one", "other"] (spCompare K C 5) := ok_compare D.d_compare (by decide) c_checked_order c_checked_word c_first_without c_compare_in
  have c_init : Maker P w K mg base 2 C (spInit K C) := ok_init G T D.d_init c_is_list c_is_name c_is_integer
  have c_parts : Callee P w K mg base 6 "_law_d_parts" ["word"] (spDParts K 5) := ok_d_parts G D.d__law_d_parts 5 (by decide)
  have c_weight : Callee P w K mg base 6 "_law_d_weight" ["weights", "word"] (spDWeight K 5) := ok_d_weight G D.d__law_d_weight 5
  have c_above : Callee P w K mg base 12 "_law_d_above" ["rows", "one", "other"] (spDAbove K 5) := ok_d_above G D.d__law_d_above (M := 5) (by decide) c_parts c_weight 5 (Nat.le_refl _)
  have c_draw : Callee P w K mg base 1 "_law_draw" ["stream", "many"] spDraw := ok_draw G D.d__law_draw
  have c_pick := ok_pick G D.d__law_pick c_draw
  have c_mixed := ok_mixed G D.d__law_mixed c_draw
  have p0 := ok_of_weight0 (P := P) (w := w) (base := base) D.d__law_of_weight
  have step : ∀ (v j : Nat), Callee P w K mg base (j + 1) "_law_of_weight" ["rows", "arities", "weight", "known"] (spOfW K v) → Callee P w K mg base (j + 4) "_law_of_weight" ["rows", "arities", "weight", "known"] (spOfW K (v + 1)) := fun v j p =>
    have q0 := (ok_rows0 (P := P) (w := w) (base := base) D.d__law_rows_of v).mono (show 1 ≤ j + 1 by omega)
    have q1 := ok_rowsS G D.d__law_rows_of q0 p
    have q2 := ok_rowsS G D.d__law_rows_of q1 (p.mono (Nat.le_succ _))
    ok_of_weightS G D.d__law_of_weight q2
  have p1 := step 0 0 p0
  have p2 := step 1 3 p1
  have p3 := step 2 6 p2
  have p4 := step 3 9 p3
  exact ok_law G T F ⟨ok_start G D.d__law_start, c_draw, c_mixed, p4, c_init, ok_sorted G D.d__law_sorted c_above, c_compare, ok_same1 G D.d__law_same (ok_same0 G D.d__law_same), c_weight, ok_down G D.d__law_down (by decide) (by decide) c_pick c_compare⟩
end
theorem all_mk {l : PySem.W.OpenLaw} {w : World} {K : PySem.W.Frag} {h : Heap} {mg : Str → Option Value} {fa C aW f_is_list f_is_integer f_is_name f_is_variable f_as_word f_checked_word f_checked_order f_first_without f_weight_in f_counted f_is_above f_compare_in f_compare f__law_d_parts f__law_d_weight f__law_d_above f__law_start f__law_draw f__law_pick f__law_mixed f__law_same f__law_of_weight f__law_rows_of f__law_sorted f__law_down f_law f_init : Addr} (X : K.In h) (G : h.Ns mainGlobals mg) (hfa : mg "law" = some (.ref fa))
    {od_is_list an_is_list od_is_integer an_is_integer od_is_name an_is_name od_is_variable an_is_variable od_as_word an_as_word od_checked_word an_checked_word od_checked_order an_checked_order od_first_without an_first_without od_weight_in an_weight_in od_counted an_counted od_is_above an_is_above od_compare_in an_compare_in od_compare an_compare od__law_d_parts an__law_d_parts od__law_d_weight an__law_d_weight od__law_d_above an__law_d_above od__law_start an__law_start od__law_draw an__law_draw od__law_pick an__law_pick od__law_mixed an__law_mixed od__law_same an__law_same od__law_of_weight an__law_of_weight od__law_rows_of an__law_rows_of od__law_sorted an__law_sorted od__law_down an__law_down od_law an_law od_init an_init : Option Addr} {sl_is_list sl_is_integer sl_is_name sl_is_variable sl_as_word sl_checked_word sl_checked_order sl_first_without sl_weight_in sl_counted sl_is_above sl_compare_in sl_compare sl__law_d_parts sl__law_d_weight sl__law_d_above sl__law_start sl__law_draw sl__law_pick sl__law_mixed sl__law_same sl__law_of_weight sl__law_rows_of sl__law_sorted sl__law_down sl_law sl_init : Array (Option Value)} {oc_is_list kV_is_list dc_is_list pm_is_list cd_is_list ct_is_list oc_is_integer kV_is_integer dc_is_integer pm_is_integer cd_is_integer ct_is_integer oc_is_name kV_is_name dc_is_name pm_is_name cd_is_name ct_is_name oc_is_variable kV_is_variable dc_is_variable pm_is_variable cd_is_variable ct_is_variable oc_as_word kV_as_word dc_as_word pm_as_word cd_as_word ct_as_word oc_checked_word kV_checked_word dc_checked_word pm_checked_word cd_checked_word ct_checked_word oc_checked_order kV_checked_order dc_checked_order pm_checked_order cd_checked_order ct_checked_order oc_first_without kV_first_without dc_first_without pm_first_without cd_first_without ct_first_without oc_weight_in kV_weight_in dc_weight_in pm_weight_in cd_weight_in ct_weight_in oc_counted kV_counted dc_counted pm_counted cd_counted ct_counted oc_is_above kV_is_above dc_is_above pm_is_above cd_is_above ct_is_above oc_compare_in kV_compare_in dc_compare_in pm_compare_in cd_compare_in ct_compare_in oc_compare kV_compare dc_compare pm_compare cd_compare ct_compare oc__law_d_parts kV__law_d_parts dc__law_d_parts pm__law_d_parts cd__law_d_parts ct__law_d_parts oc__law_d_weight kV__law_d_weight dc__law_d_weight pm__law_d_weight cd__law_d_weight ct__law_d_weight oc__law_d_above kV__law_d_above dc__law_d_above pm__law_d_above cd__law_d_above ct__law_d_above oc__law_start kV__law_start dc__law_start pm__law_start cd__law_start ct__law_start oc__law_draw kV__law_draw dc__law_draw pm__law_draw cd__law_draw ct__law_draw oc__law_pick kV__law_pick dc__law_pick pm__law_pick cd__law_pick ct__law_pick oc__law_mixed kV__law_mixed dc__law_mixed pm__law_mixed cd__law_mixed ct__law_mixed oc__law_same kV__law_same dc__law_same pm__law_same cd__law_same ct__law_same oc__law_of_weight kV__law_of_weight dc__law_of_weight pm__law_of_weight cd__law_of_weight ct__law_of_weight oc__law_rows_of kV__law_rows_of dc__law_rows_of pm__law_rows_of cd__law_rows_of ct__law_rows_of oc__law_sorted kV__law_sorted dc__law_sorted pm__law_sorted cd__law_sorted ct__law_sorted oc__law_down kV__law_down dc__law_down pm__law_down cd__law_down ct__law_down oc_law kV_law dc_law pm_law cd_law ct_law oc_init kV_init dc_init pm_init cd_init ct_init : Value}
    {tS tF tK : Tok} {odW : Option Addr} {itW : Array Value} {nW : Nat} {slW : Array (Option Value)}
    (a_is_list : PySem.W.nsIn K mainGlobals "is_list" = some (some (.ref f_is_list))) (l_is_list : K.lookup f_is_list = some ⟨oc_is_list, od_is_list, .func (PySem.W.fnOf "is_list" "is_list" (defArgs st_is_list) (defBody st_is_list) (defScope st_is_list) .none kV_is_list dc_is_list pm_is_list an_is_list cd_is_list ct_is_list), sl_is_list⟩) (c_is_list : PySem.W.codeIn K cd_is_list "is_list" = true) (k_is_list : PySem.W.keepIn K (.ref f_is_list) = true)
    (a_is_integer : PySem.W.nsIn K mainGlobals "is_integer" = some (some (.ref f_is_integer))) (l_is_integer : K.lookup f_is_integer = some ⟨oc_is_integer, od_is_integer, .func (PySem.W.fnOf "is_integer" "is_integer" (defArgs st_is_integer) (defBody st_is_integer) (defScope st_is_integer) .none kV_is_integer dc_is_integer pm_is_integer an_is_integer cd_is_integer ct_is_integer), sl_is_integer⟩) (c_is_integer : PySem.W.codeIn K cd_is_integer "is_integer" = true) (k_is_integer : PySem.W.keepIn K (.ref f_is_integer) = true)
    (a_is_name : PySem.W.nsIn K mainGlobals "is_name" = some (some (.ref f_is_name))) (l_is_name : K.lookup f_is_name = some ⟨oc_is_name, od_is_name, .func (PySem.W.fnOf "is_name" "is_name" (defArgs st_is_name) (defBody st_is_name) (defScope st_is_name) .none kV_is_name dc_is_name pm_is_name an_is_name cd_is_name ct_is_name), sl_is_name⟩) (c_is_name : PySem.W.codeIn K cd_is_name "is_name" = true) (k_is_name : PySem.W.keepIn K (.ref f_is_name) = true)
    (a_is_variable : PySem.W.nsIn K mainGlobals "is_variable" = some (some (.ref f_is_variable))) (l_is_variable : K.lookup f_is_variable = some ⟨oc_is_variable, od_is_variable, .func (PySem.W.fnOf "is_variable" "is_variable" (defArgs st_is_variable) (defBody st_is_variable) (defScope st_is_variable) .none kV_is_variable dc_is_variable pm_is_variable an_is_variable cd_is_variable ct_is_variable), sl_is_variable⟩) (c_is_variable : PySem.W.codeIn K cd_is_variable "is_variable" = true) (k_is_variable : PySem.W.keepIn K (.ref f_is_variable) = true)
    (a_as_word : PySem.W.nsIn K mainGlobals "as_word" = some (some (.ref f_as_word))) (l_as_word : K.lookup f_as_word = some ⟨oc_as_word, od_as_word, .func (PySem.W.fnOf "as_word" "as_word" (defArgs st_as_word) (defBody st_as_word) (defScope st_as_word) .none kV_as_word dc_as_word pm_as_word an_as_word cd_as_word ct_as_word), sl_as_word⟩) (c_as_word : PySem.W.codeIn K cd_as_word "as_word" = true) (k_as_word : PySem.W.keepIn K (.ref f_as_word) = true)
    (a_checked_word : PySem.W.nsIn K mainGlobals "checked_word" = some (some (.ref f_checked_word))) (l_checked_word : K.lookup f_checked_word = some ⟨oc_checked_word, od_checked_word, .func (PySem.W.fnOf "checked_word" "checked_word" (defArgs st_checked_word) (defBody st_checked_word) (defScope st_checked_word) .none kV_checked_word dc_checked_word pm_checked_word an_checked_word cd_checked_word ct_checked_word), sl_checked_word⟩) (c_checked_word : PySem.W.codeIn K cd_checked_word "checked_word" = true) (k_checked_word : PySem.W.keepIn K (.ref f_checked_word) = true)
    (a_checked_order : PySem.W.nsIn K mainGlobals "checked_order" = some (some (.ref f_checked_order))) (l_checked_order : K.lookup f_checked_order = some ⟨oc_checked_order, od_checked_order, .func (PySem.W.fnOf "checked_order" "checked_order" (defArgs st_checked_order) (defBody st_checked_order) (defScope st_checked_order) .none kV_checked_order dc_checked_order pm_checked_order an_checked_order cd_checked_order ct_checked_order), sl_checked_order⟩) (c_checked_order : PySem.W.codeIn K cd_checked_order "checked_order" = true) (k_checked_order : PySem.W.keepIn K (.ref f_checked_order) = true)
    (a_first_without : PySem.W.nsIn K mainGlobals "first_without" = some (some (.ref f_first_without))) (l_first_without : K.lookup f_first_without = some ⟨oc_first_without, od_first_without, .func (PySem.W.fnOf "first_without" "first_without" (defArgs st_first_without) (defBody st_first_without) (defScope st_first_without) .none kV_first_without dc_first_without pm_first_without an_first_without cd_first_without ct_first_without), sl_first_without⟩) (c_first_without : PySem.W.codeIn K cd_first_without "first_without" = true) (k_first_without : PySem.W.keepIn K (.ref f_first_without) = true)
    (a_weight_in : PySem.W.nsIn K mainGlobals "weight_in" = some (some (.ref f_weight_in))) (l_weight_in : K.lookup f_weight_in = some ⟨oc_weight_in, od_weight_in, .func (PySem.W.fnOf "weight_in" "weight_in" (defArgs st_weight_in) (defBody st_weight_in) (defScope st_weight_in) .none kV_weight_in dc_weight_in pm_weight_in an_weight_in cd_weight_in ct_weight_in), sl_weight_in⟩) (c_weight_in : PySem.W.codeIn K cd_weight_in "weight_in" = true) (k_weight_in : PySem.W.keepIn K (.ref f_weight_in) = true)
    (a_counted : PySem.W.nsIn K mainGlobals "counted" = some (some (.ref f_counted))) (l_counted : K.lookup f_counted = some ⟨oc_counted, od_counted, .func (PySem.W.fnOf "counted" "counted" (defArgs st_counted) (defBody st_counted) (defScope st_counted) .none kV_counted dc_counted pm_counted an_counted cd_counted ct_counted), sl_counted⟩) (c_counted : PySem.W.codeIn K cd_counted "counted" = true) (k_counted : PySem.W.keepIn K (.ref f_counted) = true)
    (a_is_above : PySem.W.nsIn K mainGlobals "is_above" = some (some (.ref f_is_above))) (l_is_above : K.lookup f_is_above = some ⟨oc_is_above, od_is_above, .func (PySem.W.fnOf "is_above" "is_above" (defArgs st_is_above) (defBody st_is_above) (defScope st_is_above) .none kV_is_above dc_is_above pm_is_above an_is_above cd_is_above ct_is_above), sl_is_above⟩) (c_is_above : PySem.W.codeIn K cd_is_above "is_above" = true) (k_is_above : PySem.W.keepIn K (.ref f_is_above) = true)
    (a_compare_in : PySem.W.nsIn K mainGlobals "compare_in" = some (some (.ref f_compare_in))) (l_compare_in : K.lookup f_compare_in = some ⟨oc_compare_in, od_compare_in, .func (PySem.W.fnOf "compare_in" "compare_in" (defArgs st_compare_in) (defBody st_compare_in) (defScope st_compare_in) .none kV_compare_in dc_compare_in pm_compare_in an_compare_in cd_compare_in ct_compare_in), sl_compare_in⟩) (c_compare_in : PySem.W.codeIn K cd_compare_in "compare_in" = true) (k_compare_in : PySem.W.keepIn K (.ref f_compare_in) = true)
    (a_compare : PySem.W.nsIn K mainGlobals "compare" = some (some (.ref f_compare))) (l_compare : K.lookup f_compare = some ⟨oc_compare, od_compare, .func (PySem.W.fnOf "compare" "compare" (defArgs st_compare) (defBody st_compare) (defScope st_compare) .none kV_compare dc_compare pm_compare an_compare cd_compare ct_compare), sl_compare⟩) (c_compare : PySem.W.codeIn K cd_compare "compare" = true) (k_compare : PySem.W.keepIn K (.ref f_compare) = true)
    (a__law_d_parts : PySem.W.nsIn K mainGlobals "_law_d_parts" = some (some (.ref f__law_d_parts))) (l__law_d_parts : K.lookup f__law_d_parts = some ⟨oc__law_d_parts, od__law_d_parts, .func (PySem.W.fnOf "_law_d_parts" "_law_d_parts" (defArgs st__law_d_parts) (defBody st__law_d_parts) (defScope st__law_d_parts) .none kV__law_d_parts dc__law_d_parts pm__law_d_parts an__law_d_parts cd__law_d_parts ct__law_d_parts), sl__law_d_parts⟩) (c__law_d_parts : PySem.W.codeIn K cd__law_d_parts "_law_d_parts" = true) (k__law_d_parts : PySem.W.keepIn K (.ref f__law_d_parts) = true)
    (a__law_d_weight : PySem.W.nsIn K mainGlobals "_law_d_weight" = some (some (.ref f__law_d_weight))) (l__law_d_weight : K.lookup f__law_d_weight = some ⟨oc__law_d_weight, od__law_d_weight, .func (PySem.W.fnOf "_law_d_weight" "_law_d_weight" (defArgs st__law_d_weight) (defBody st__law_d_weight) (defScope st__law_d_weight) .none kV__law_d_weight dc__law_d_weight pm__law_d_weight an__law_d_weight cd__law_d_weight ct__law_d_weight), sl__law_d_weight⟩) (c__law_d_weight : PySem.W.codeIn K cd__law_d_weight "_law_d_weight" = true) (k__law_d_weight : PySem.W.keepIn K (.ref f__law_d_weight) = true)
    (a__law_d_above : PySem.W.nsIn K mainGlobals "_law_d_above" = some (some (.ref f__law_d_above))) (l__law_d_above : K.lookup f__law_d_above = some ⟨oc__law_d_above, od__law_d_above, .func (PySem.W.fnOf "_law_d_above" "_law_d_above" (defArgs st__law_d_above) (defBody st__law_d_above) (defScope st__law_d_above) .none kV__law_d_above dc__law_d_above pm__law_d_above an__law_d_above cd__law_d_above ct__law_d_above), sl__law_d_above⟩) (c__law_d_above : PySem.W.codeIn K cd__law_d_above "_law_d_above" = true) (k__law_d_above : PySem.W.keepIn K (.ref f__law_d_above) = true)
    (a__law_start : PySem.W.nsIn K mainGlobals "_law_start" = some (some (.ref f__law_start))) (l__law_start : K.lookup f__law_start = some ⟨oc__law_start, od__law_start, .func (PySem.W.fnOf "_law_start" "_law_start" (defArgs st__law_start) (defBody st__law_start) (defScope st__law_start) .none kV__law_start dc__law_start pm__law_start an__law_start cd__law_start ct__law_start), sl__law_start⟩) (c__law_start : PySem.W.codeIn K cd__law_start "_law_start" = true) (k__law_start : PySem.W.keepIn K (.ref f__law_start) = true)
    (a__law_draw : PySem.W.nsIn K mainGlobals "_law_draw" = some (some (.ref f__law_draw))) (l__law_draw : K.lookup f__law_draw = some ⟨oc__law_draw, od__law_draw, .func (PySem.W.fnOf "_law_draw" "_law_draw" (defArgs st__law_draw) (defBody st__law_draw) (defScope st__law_draw) .none kV__law_draw dc__law_draw pm__law_draw an__law_draw cd__law_draw ct__law_draw), sl__law_draw⟩) (c__law_draw : PySem.W.codeIn K cd__law_draw "_law_draw" = true) (k__law_draw : PySem.W.keepIn K (.ref f__law_draw) = true)
    (a__law_pick : PySem.W.nsIn K mainGlobals "_law_pick" = some (some (.ref f__law_pick))) (l__law_pick : K.lookup f__law_pick = some ⟨oc__law_pick, od__law_pick, .func (PySem.W.fnOf "_law_pick" "_law_pick" (defArgs st__law_pick) (defBody st__law_pick) (defScope st__law_pick) .none kV__law_pick dc__law_pick pm__law_pick an__law_pick cd__law_pick ct__law_pick), sl__law_pick⟩) (c__law_pick : PySem.W.codeIn K cd__law_pick "_law_pick" = true) (k__law_pick : PySem.W.keepIn K (.ref f__law_pick) = true)
    (a__law_mixed : PySem.W.nsIn K mainGlobals "_law_mixed" = some (some (.ref f__law_mixed))) (l__law_mixed : K.lookup f__law_mixed = some ⟨oc__law_mixed, od__law_mixed, .func (PySem.W.fnOf "_law_mixed" "_law_mixed" (defArgs st__law_mixed) (defBody st__law_mixed) (defScope st__law_mixed) .none kV__law_mixed dc__law_mixed pm__law_mixed an__law_mixed cd__law_mixed ct__law_mixed), sl__law_mixed⟩) (c__law_mixed : PySem.W.codeIn K cd__law_mixed "_law_mixed" = true) (k__law_mixed : PySem.W.keepIn K (.ref f__law_mixed) = true)
    (a__law_same : PySem.W.nsIn K mainGlobals "_law_same" = some (some (.ref f__law_same))) (l__law_same : K.lookup f__law_same = some ⟨oc__law_same, od__law_same, .func (PySem.W.fnOf "_law_same" "_law_same" (defArgs st__law_same) (defBody st__law_same) (defScope st__law_same) .none kV__law_same dc__law_same pm__law_same an__law_same cd__law_same ct__law_same), sl__law_same⟩) (c__law_same : PySem.W.codeIn K cd__law_same "_law_same" = true) (k__law_same : PySem.W.keepIn K (.ref f__law_same) = true)
    (a__law_of_weight : PySem.W.nsIn K mainGlobals "_law_of_weight" = some (some (.ref f__law_of_weight))) (l__law_of_weight : K.lookup f__law_of_weight = some ⟨oc__law_of_weight, od__law_of_weight, .func (PySem.W.fnOf "_law_of_weight" "_law_of_weight" (defArgs st__law_of_weight) (defBody st__law_of_weight) (defScope st__law_of_weight) .none kV__law_of_weight dc__law_of_weight pm__law_of_weight an__law_of_weight cd__law_of_weight ct__law_of_weight), sl__law_of_weight⟩) (c__law_of_weight : PySem.W.codeIn K cd__law_of_weight "_law_of_weight" = true) (k__law_of_weight : PySem.W.keepIn K (.ref f__law_of_weight) = true)
    (a__law_rows_of : PySem.W.nsIn K mainGlobals "_law_rows_of" = some (some (.ref f__law_rows_of))) (l__law_rows_of : K.lookup f__law_rows_of = some ⟨oc__law_rows_of, od__law_rows_of, .func (PySem.W.fnOf "_law_rows_of" "_law_rows_of" (defArgs st__law_rows_of) (defBody st__law_rows_of) (defScope st__law_rows_of) .none kV__law_rows_of dc__law_rows_of pm__law_rows_of an__law_rows_of cd__law_rows_of ct__law_rows_of), sl__law_rows_of⟩) (c__law_rows_of : PySem.W.codeIn K cd__law_rows_of "_law_rows_of" = true) (k__law_rows_of : PySem.W.keepIn K (.ref f__law_rows_of) = true)
    (a__law_sorted : PySem.W.nsIn K mainGlobals "_law_sorted" = some (some (.ref f__law_sorted))) (l__law_sorted : K.lookup f__law_sorted = some ⟨oc__law_sorted, od__law_sorted, .func (PySem.W.fnOf "_law_sorted" "_law_sorted" (defArgs st__law_sorted) (defBody st__law_sorted) (defScope st__law_sorted) .none kV__law_sorted dc__law_sorted pm__law_sorted an__law_sorted cd__law_sorted ct__law_sorted), sl__law_sorted⟩) (c__law_sorted : PySem.W.codeIn K cd__law_sorted "_law_sorted" = true) (k__law_sorted : PySem.W.keepIn K (.ref f__law_sorted) = true)
    (a__law_down : PySem.W.nsIn K mainGlobals "_law_down" = some (some (.ref f__law_down))) (l__law_down : K.lookup f__law_down = some ⟨oc__law_down, od__law_down, .func (PySem.W.fnOf "_law_down" "_law_down" (defArgs st__law_down) (defBody st__law_down) (defScope st__law_down) .none kV__law_down dc__law_down pm__law_down an__law_down cd__law_down ct__law_down), sl__law_down⟩) (c__law_down : PySem.W.codeIn K cd__law_down "_law_down" = true) (k__law_down : PySem.W.keepIn K (.ref f__law_down) = true)
    (a_law : PySem.W.nsIn K mainGlobals "law" = some (some (.ref f_law))) (l_law : K.lookup f_law = some ⟨oc_law, od_law, .func (PySem.W.fnOf "law" "law" (defArgs st_law) (defBody st_law) (defScope st_law) .none kV_law dc_law pm_law an_law cd_law ct_law), sl_law⟩) (c_law : PySem.W.codeIn K cd_law "law" = true) (k_law : PySem.W.keepIn K (.ref f_law) = true)
    (aC : PySem.W.nsIn K mainGlobals "Order" = some (some (.ref C)))
    (a_init : PySem.W.findIn K (.ref C) "__init__" = some (some (.ref f_init))) (i_init : PySem.W.isFn K (.ref f_init) = true) (l_init : K.lookup f_init = some ⟨oc_init, od_init, .func (PySem.W.fnOf "__init__" "Order.__init__" (defArgs st_Order___init__) (defBody st_Order___init__) (defScope st_Order___init__) .none kV_init dc_init pm_init an_init cd_init ct_init), sl_init⟩) (c_init : PySem.W.codeIn K cd_init "Order.__init__" = true) (k_init : PySem.W.keepIn K (.ref f_init) = true)
    (pg : PySem.W.plainGet K C Str.empty = true) (hd : PySem.W.hasDictIn K C = true) (po : PySem.W.plainOver K C = true) (sa : PySem.W.findIn K (.ref C) "__setattr__" = some (some (.builtin "object.__setattr__"))) (mk : PySem.W.makesIn K C = true) (kc : PySem.W.keepIn K (.ref C) = true)
    (nW' : PySem.W.findIn K (.ref C) "own_weights" = some none) (nR : PySem.W.findIn K (.ref C) "own_ranks" = some none)
    (ha : PySem.W.findIn K (.ref C) "__class__" = some (some (.builtin "object.__class__"))) (hn : PySem.W.specialIn K (.builtin "object.__class__") "__get__" = some (some (.builtin "getset_descriptor.__get__"))) (htk : PySem.W.takesIn K (.builtin "object.__class__") = some true) (hm : PySem.W.mroIn K C (.type "object") = some true)
    (aS : PySem.W.nsIn K mainGlobals "SMALL" = some (some (.str sSMALL tS))) (aF : PySem.W.nsIn K mainGlobals "FIGURES" = some (some (.str sFIGURES tF))) (aK : PySem.W.nsIn K mainGlobals "CAPITALS" = some (some (.str sCAPITALS tK)))
    (aWd : PySem.W.nsIn K mainGlobals "WORDS" = some (some (.ref aW))) (lW : K.lookup aW = some ⟨.type "tuple", odW, .seq itW nW, slW⟩) (hW : itW.size ≤ sizeLine) (eW : Vals (kwords.map V.str) itW.toList)
    (z_isinstance : PySem.W.nsIn K mainGlobals "isinstance" = some none)
    (z_str : PySem.W.nsIn K mainGlobals "str" = some none)
    (z_list : PySem.W.nsIn K mainGlobals "list" = some none)
    (z_tuple : PySem.W.nsIn K mainGlobals "tuple" = some none)
    (z_int : PySem.W.nsIn K mainGlobals "int" = some none)
    (z_bool : PySem.W.nsIn K mainGlobals "bool" = some none)
    (z_dict : PySem.W.nsIn K mainGlobals "dict" = some none)
    (z_len : PySem.W.nsIn K mainGlobals "len" = some none)
    (z_all : PySem.W.nsIn K mainGlobals "all" = some none)
    (z_any : PySem.W.nsIn K mainGlobals "any" = some none)
    (z_sum : PySem.W.nsIn K mainGlobals "sum" = some none)
    (z_sorted : PySem.W.nsIn K mainGlobals "sorted" = some none)
    (z_range : PySem.W.nsIn K mainGlobals "range" = some none)
    (z_enumerate : PySem.W.nsIn K mainGlobals "enumerate" = some none)
    (z_zip : PySem.W.nsIn K mainGlobals "zip" = some none) :
    ∃ fd : FuncData, (∀ (s : Shared) (v : Value), BindsTo s fd ⟨[v], []⟩ [("script", v)]) ∧ ∀ base : Heap, K.In base → base.Ns mainGlobals mg → FnOk l.prog w K mg base CX0 16 fa fd ["script"] (spLaw K) := by
  have e := hfa.symm.trans (PySem.W.mg_of X G a_law)
  cases e
  have GG : Glob K mg := ⟨⟨_, PySem.W.mg_of X G aS, _, rfl⟩, ⟨_, PySem.W.mg_of X G aF, _, rfl⟩, ⟨_, PySem.W.mg_of X G aK, _, rfl⟩, ⟨aW, _, PySem.W.mg_of X G aWd, rfl, fun H => .inr ⟨_, _, _, lW, rfl, rfl, hW, eW⟩⟩, PySem.W.mg_none_of X G z_isinstance, PySem.W.mg_none_of X G z_str, PySem.W.mg_none_of X G z_list, PySem.W.mg_none_of X G z_tuple, PySem.W.mg_none_of X G z_int, PySem.W.mg_none_of X G z_bool, PySem.W.mg_none_of X G z_dict, PySem.W.mg_none_of X G z_len, PySem.W.mg_none_of X G z_all, PySem.W.mg_none_of X G z_any, PySem.W.mg_none_of X G z_sum, PySem.W.mg_none_of X G z_sorted, PySem.W.mg_none_of X G z_range, PySem.W.mg_none_of X G z_enumerate, PySem.W.mg_none_of X G z_zip⟩
  have T : OTxt K mg C := ⟨⟨pg, hd, po, sa⟩, nW', nR, PySem.W.mg_of X G aC, ha, hn, htk, hm⟩
  have F_is_list := fun_mk (st := st_is_list) l_is_list c_is_list k_is_list
  have b_is_list := F_is_list.binds (ps := ["thing"]) fun _ _ _ _ _ _ us hl => match us, hl with | [_], _ => rfl
  have F_is_integer := fun_mk (st := st_is_integer) l_is_integer c_is_integer k_is_integer
  have b_is_integer := F_is_integer.binds (ps := ["thing"]) fun _ _ _ _ _ _ us hl => match us, hl with | [_], _ => rfl
  have F_is_name := fun_mk (st := st_is_name) l_is_name c_is_name k_is_name
  have b_is_name := F_is_name.binds (ps := ["thing"]) fun _ _ _ _ _ _ us hl => match us, hl with | [_], _ => rfl
  have F_is_variable := fun_mk (st := st_is_variable) l_is_variable c_is_variable k_is_variable
  have b_is_variable := F_is_variable.binds (ps := ["thing"]) fun _ _ _ _ _ _ us hl => match us, hl with | [_], _ => rfl
  have F_as_word := fun_mk (st := st_as_word) l_as_word c_as_word k_as_word
  have b_as_word := F_as_word.binds (ps := ["thing"]) fun _ _ _ _ _ _ us hl => match us, hl with | [_], _ => rfl
  have F_checked_word := fun_mk (st := st_checked_word) l_checked_word c_checked_word k_checked_word
  have b_checked_word := F_checked_word.binds (ps := ["thing"]) fun _ _ _ _ _ _ us hl => match us, hl with | [_], _ => rfl
  have F_checked_order := fun_mk (st := st_checked_order) l_checked_order c_checked_order k_checked_order
  have b_checked_order := F_checked_order.binds (ps := ["order"]) fun _ _ _ _ _ _ us hl => match us, hl with | [_], _ => rfl
  have F_first_without := fun_mk (st := st_first_without) l_first_without c_first_without k_first_without
  have b_first_without := F_first_without.binds (ps := ["order", "word"]) fun _ _ _ _ _ _ us hl => match us, hl with | [_, _], _ => rfl
  have F_weight_in := fun_mk (st := st_weight_in) l_weight_in c_weight_in k_weight_in
  have b_weight_in := F_weight_in.binds (ps := ["order", "word"]) fun _ _ _ _ _ _ us hl => match us, hl with | [_, _], _ => rfl
  have F_counted := fun_mk (st := st_counted) l_counted c_counted k_counted
  have b_counted := F_counted.binds (ps := ["word", "known"]) fun _ _ _ _ _ _ us hl => match us, hl with | [_, _], _ => rfl
  have F_is_above := fun_mk (st := st_is_above) l_is_above c_is_above k_is_above
  have b_is_above := F_is_above.binds (ps := ["order", "one", "other"]) fun _ _ _ _ _ _ us hl => match us, hl with | [_, _, _], _ => rfl
  have F_compare_in := fun_mk (st := st_compare_in) l_compare_in c_compare_in k_compare_in
  have b_compare_in := F_compare_in.binds (ps := ["order", "one", "other"]) fun _ _ _ _ _ _ us hl => match us, hl with | [_, _, _], _ => rfl
  have F_compare := fun_mk (st := st_compare) l_compare c_compare k_compare
  have b_compare := F_compare.binds (ps := ["order", "one", "other"]) fun _ _ _ _ _ _ us hl => match us, hl with | [_, _, _], _ => rfl
  have F__law_d_parts := fun_mk (st := st__law_d_parts) l__law_d_parts c__law_d_parts k__law_d_parts
  have b__law_d_parts := F__law_d_parts.binds (ps := ["word"]) fun _ _ _ _ _ _ us hl => match us, hl with | [_], _ => rfl
  have F__law_d_weight := fun_mk (st := st__law_d_weight) l__law_d_weight c__law_d_weight k__law_d_weight
  have b__law_d_weight := F__law_d_weight.binds (ps := ["weights", "word"]) fun _ _ _ _ _ _ us hl => match us, hl with | [_, _], _ => rfl
  have F__law_d_above := fun_mk (st := st__law_d_above) l__law_d_above c__law_d_above k__law_d_above
  have b__law_d_above := F__law_d_above.binds (ps := ["rows", "one", "other"]) fun _ _ _ _ _ _ us hl => match us, hl with | [_, _, _], _ => rfl
  have F__law_start := fun_mk (st := st__law_start) l__law_start c__law_start k__law_start
  have b__law_start := F__law_start.binds (ps := ["script"]) fun _ _ _ _ _ _ us hl => match us, hl with | [_], _ => rfl
  have F__law_draw := fun_mk (st := st__law_draw) l__law_draw c__law_draw k__law_draw
  have b__law_draw := F__law_draw.binds (ps := ["stream", "many"]) fun _ _ _ _ _ _ us hl => match us, hl with | [_, _], _ => rfl
  have F__law_pick := fun_mk (st := st__law_pick) l__law_pick c__law_pick k__law_pick
  have b__law_pick := F__law_pick.binds (ps := ["stream", "some"]) fun _ _ _ _ _ _ us hl => match us, hl with | [_, _], _ => rfl
  have F__law_mixed := fun_mk (st := st__law_mixed) l__law_mixed c__law_mixed k__law_mixed
  have b__law_mixed := F__law_mixed.binds (ps := ["stream", "some"]) fun _ _ _ _ _ _ us hl => match us, hl with | [_, _], _ => rfl
  have F__law_same := fun_mk (st := st__law_same) l__law_same c__law_same k__law_same
  have b__law_same := F__law_same.binds (ps := ["found", "due"]) fun _ _ _ _ _ _ us hl => match us, hl with | [_, _], _ => rfl
  have F__law_of_weight := fun_mk (st := st__law_of_weight) l__law_of_weight c__law_of_weight k__law_of_weight
  have b__law_of_weight := F__law_of_weight.binds (ps := ["rows", "arities", "weight", "known"]) fun _ _ _ _ _ _ us hl => match us, hl with | [_, _, _, _], _ => rfl
  have F__law_rows_of := fun_mk (st := st__law_rows_of) l__law_rows_of c__law_rows_of k__law_rows_of
  have b__law_rows_of := F__law_rows_of.binds (ps := ["rows", "arities", "many", "weight", "known"]) fun _ _ _ _ _ _ us hl => match us, hl with | [_, _, _, _, _], _ => rfl
  have F__law_sorted := fun_mk (st := st__law_sorted) l__law_sorted c__law_sorted k__law_sorted
  have b__law_sorted := F__law_sorted.binds (ps := ["rows", "words"]) fun _ _ _ _ _ _ us hl => match us, hl with | [_, _], _ => rfl
  have F__law_down := fun_mk (st := st__law_down) l__law_down c__law_down k__law_down
  have b__law_down := F__law_down.binds (ps := ["stream", "order", "words"]) fun _ _ _ _ _ _ us hl => match us, hl with | [_, _, _], _ => rfl
  have F_law := fun_mk (st := st_law) l_law c_law k_law
  have b_law := F_law.binds (ps := ["script"]) fun _ _ _ _ _ _ us hl => match us, hl with | [_], _ => rfl
  have F_init := fun_mk (st := st_Order___init__) l_init c_init k_init
  have b_init := F_init.binds (ps := ["self", "rows"]) fun _ _ _ _ _ _ us hl => match us, hl with | [_, _], _ => rfl
  have DD : Fns K mg C := ⟨⟨_, _, F_is_list, b_is_list, PySem.W.mg_of X G a_is_list⟩, ⟨_, _, F_is_integer, b_is_integer, PySem.W.mg_of X G a_is_integer⟩, ⟨_, _, F_is_name, b_is_name, PySem.W.mg_of X G a_is_name⟩, ⟨_, _, F_is_variable, b_is_variable, PySem.W.mg_of X G a_is_variable⟩, ⟨_, _, F_as_word, b_as_word, PySem.W.mg_of X G a_as_word⟩, ⟨_, _, F_checked_word, b_checked_word, PySem.W.mg_of X G a_checked_word⟩, ⟨_, _, F_checked_order, b_checked_order, PySem.W.mg_of X G a_checked_order⟩, ⟨_, _, F_first_without, b_first_without, PySem.W.mg_of X G a_first_without⟩, ⟨_, _, F_weight_in, b_weight_in, PySem.W.mg_of X G a_weight_in⟩, ⟨_, _, F_counted, b_counted, PySem.W.mg_of X G a_counted⟩, ⟨_, _, F_is_above, b_is_above, PySem.W.mg_of X G a_is_above⟩, ⟨_, _, F_compare_in, b_compare_in, PySem.W.mg_of X G a_compare_in⟩, ⟨_, _, F_compare, b_compare, PySem.W.mg_of X G a_compare⟩, ⟨_, _, F__law_d_parts, b__law_d_parts, PySem.W.mg_of X G a__law_d_parts⟩, ⟨_, _, F__law_d_weight, b__law_d_weight, PySem.W.mg_of X G a__law_d_weight⟩, ⟨_, _, F__law_d_above, b__law_d_above, PySem.W.mg_of X G a__law_d_above⟩, ⟨_, _, F__law_start, b__law_start, PySem.W.mg_of X G a__law_start⟩, ⟨_, _, F__law_draw, b__law_draw, PySem.W.mg_of X G a__law_draw⟩, ⟨_, _, F__law_pick, b__law_pick, PySem.W.mg_of X G a__law_pick⟩, ⟨_, _, F__law_mixed, b__law_mixed, PySem.W.mg_of X G a__law_mixed⟩, ⟨_, _, F__law_same, b__law_same, PySem.W.mg_of X G a__law_same⟩, ⟨_, _, F__law_of_weight, b__law_of_weight, PySem.W.mg_of X G a__law_of_weight⟩, ⟨_, _, F__law_rows_of, b__law_rows_of, PySem.W.mg_of X G a__law_rows_of⟩, ⟨_, _, F__law_sorted, b__law_sorted, PySem.W.mg_of X G a__law_sorted⟩, ⟨_, _, F__law_down, b__law_down, PySem.W.mg_of X G a__law_down⟩, ⟨_, _, F_law, b_law, PySem.W.mg_of X G a_law⟩, ⟨_, _, F_init, b_init, ⟨mk, a_init, i_init, kc⟩⟩⟩
  refine ⟨PySem.W.fnOf "law" "law" (defArgs st_law) (defBody st_law) (defScope st_law) .none kV_law dc_law pm_law an_law cd_law ct_law, fun s v => .of_eq rfl, fun base _ _ => ?_⟩
  exact chain (P := l.prog) (w := w) (base := base) GG T DD F_law
theorem walk {l : PySem.W.OpenLaw} {q : Program} {loose : List Str} {XP : (Str → Option Value) → Heap → Prop} {YP : World → Heap → Prop} {d : DefRec} {K : Params → PySem.W.Frag} (hn : l.most = some 63) (hdf : d.params.defaults = [])
    (hY : ∀ (w : World) (h : Heap), YP w h → (K w.params).In h)
    (F : ∀ (w : World) (mg : Str → Option Value) (fa : Addr) (h : Heap), (K w.params).In h → h.Ns mainGlobals mg → mg d.name = some (.ref fa) →
      ∃ fd : FuncData, (∀ (s : Shared) (u : Value), BindsTo s fd ⟨[u], []⟩ [("script", u)]) ∧ ∀ base : Heap, (K w.params).In base → base.Ns mainGlobals mg → FnOk l.prog w (K w.params) mg base CX0 16 fa fd ["script"] (spLaw (K w.params))) :
    PySem.W.WalkO q loose XP YP l.row.toRowW d [] (fun f vs => PySem.call f vs) :=
  L2.walk_of (n := 63) (k := 16) (x := "script") (CX := fun _ => CX0) (sp := fun w => spLaw (K w.params)) hn (by decide) hdf ⟨rfl, by decide, by decide⟩ hY F (fun _ _ a ns hl _ hS => ⟨a, ns, rfl, hS, fun _ => rfl⟩) fun _ _ _ _ _ z => z
end K29

-- text: End1
open PySem PySem.W PyProof.Rows
set_option maxRecDepth 100000 in
set_option maxHeartbeats 0 in
theorem PySem.Challenge.cw_eithershown_k29_whole_no_row_down_holds : PySem.Challenge.rw_eithershown_k29_whole_no_row_down.Holds := by
  w_on; o_law; k_head; (case hw => w_witness2)
  k_fill
  refine K29.walk (l := PySem.Challenge.rw_eithershown_k29_whole_no_row_down) rfl rfl (fun w h Y => PySem.W.kIn_of Y) ?F
  case F =>
    intro w mg fa h KX G hmg
    refine' K29.all_mk KX G hmg ?a_is_list ?l_is_list ?c_is_list ?k_is_list ?a_is_integer ?l_is_integer ?c_is_integer ?k_is_integer ?a_is_name ?l_is_name ?c_is_name ?k_is_name ?a_is_variable ?l_is_variable ?c_is_variable ?k_is_variable ?a_as_word ?l_as_word ?c_as_word ?k_as_word ?a_checked_word ?l_checked_word ?c_checked_word ?k_checked_word ?a_checked_order ?l_checked_order ?c_checked_order ?k_checked_order ?a_first_without ?l_first_without ?c_first_without ?k_first_without ?a_weight_in ?l_weight_in ?c_weight_in ?k_weight_in ?a_counted ?l_counted ?c_counted ?k_counted ?a_is_above ?l_is_above ?c_is_above ?k_is_above ?a_compare_in ?l_compare_in ?c_compare_in ?k_compare_in ?a_compare ?l_compare ?c_compare ?k_compare ?a__law_d_parts ?l__law_d_parts ?c__law_d_parts ?k__law_d_parts ?a__law_d_weight ?l__law_d_weight ?c__law_d_weight ?k__law_d_weight ?a__law_d_above ?l__law_d_above ?c__law_d_above ?k__law_d_above ?a__law_start ?l__law_start ?c__law_start ?k__law_start ?a__law_draw ?l__law_draw ?c__law_draw ?k__law_draw ?a__law_pick ?l__law_pick ?c__law_pick ?k__law_pick ?a__law_mixed ?l__law_mixed ?c__law_mixed ?k__law_mixed ?a__law_same ?l__law_same ?c__law_same ?k__law_same ?a__law_of_weight ?l__law_of_weight ?c__law_of_weight ?k__law_of_weight ?a__law_rows_of ?l__law_rows_of ?c__law_rows_of ?k__law_rows_of ?a__law_sorted ?l__law_sorted ?c__law_sorted ?k__law_sorted ?a__law_down ?l__law_down ?c__law_down ?k__law_down ?a_law ?l_law ?c_law ?k_law ?aC ?a_init ?i_init ?l_init ?c_init ?k_init ?pg ?hd ?po ?sa ?mk ?kc ?nW ?nR ?ha ?hn ?htk ?hm ?aS ?aF ?aK ?aWd ?lW ?hW ?eW ?z_isinstance ?z_str ?z_list ?z_tuple ?z_int ?z_bool ?z_dict ?z_len ?z_all ?z_any ?z_sum ?z_sorted ?z_range ?z_enumerate ?z_zip
    (case a_is_list => k_is)
    (case l_is_list => k_is)
    (case c_is_list => k_is)
    (case k_is_list => k_is)
    (case a_is_integer => k_is)
    (case l_is_integer => k_is)
    (case c_is_integer => k_is)
    (case k_is_integer => k_is)
    (case a_is_name => k_is)
    (case l_is_name => k_is)
    (case c_is_name => k_is)
    (case k_is_name => k_is)
    (case a_is_variable => k_is)
    (case l_is_variable => k_is)
    (case c_is_variable => k_is)
    (case k_is_variable => k_is)
    (case a_as_word => k_is)
    (case l_as_word => k_is)
    (case c_as_word => k_is)
    (case k_as_word => k_is)
    (case a_checked_word => k_is)
    (case l_checked_word => k_is)
    (case c_checked_word => k_is)
    (case k_checked_word => k_is)
    (case a_checked_order => k_is)
    (case l_checked_order => k_is)
    (case c_checked_order => k_is)
    (case k_checked_order => k_is)
    (case a_first_without => k_is)
    (case l_first_without => k_is)
    (case c_first_without => k_is)
    (case k_first_without => k_is)
    (case a_weight_in => k_is)
    (case l_weight_in => k_is)
    (case c_weight_in => k_is)
    (case k_weight_in => k_is)
    (case a_counted => k_is)
    (case l_counted => k_is)
    (case c_counted => k_is)
    (case k_counted => k_is)
    (case a_is_above => k_is)
    (case l_is_above => k_is)
    (case c_is_above => k_is)
    (case k_is_above => k_is)
    (case a_compare_in => k_is)
    (case l_compare_in => k_is)
    (case c_compare_in => k_is)
    (case k_compare_in => k_is)
    (case a_compare => k_is)
    (case l_compare => k_is)
    (case c_compare => k_is)
    (case k_compare => k_is)
    (case a__law_d_parts => k_is)
    (case l__law_d_parts => k_is)
    (case c__law_d_parts => k_is)
    (case k__law_d_parts => k_is)
    (case a__law_d_weight => k_is)
    (case l__law_d_weight => k_is)
    (case c__law_d_weight => k_is)
    (case k__law_d_weight => k_is)
    (case a__law_d_above => k_is)
    (case l__law_d_above => k_is)
    (case c__law_d_above => k_is)
    (case k__law_d_above => k_is)
    (case a__law_start => k_is)
    (case l__law_start => k_is)
    (case c__law_start => k_is)
    (case k__law_start => k_is)
    (case a__law_draw => k_is)
    (case l__law_draw => k_is)
    (case c__law_draw => k_is)
    (case k__law_draw => k_is)
    (case a__law_pick => k_is)
    (case l__law_pick => k_is)
    (case c__law_pick => k_is)
    (case k__law_pick => k_is)
    (case a__law_mixed => k_is)
    (case l__law_mixed => k_is)
    (case c__law_mixed => k_is)
    (case k__law_mixed => k_is)
    (case a__law_same => k_is)
    (case l__law_same => k_is)
    (case c__law_same => k_is)
    (case k__law_same => k_is)
    (case a__law_of_weight => k_is)
    (case l__law_of_weight => k_is)
    (case c__law_of_weight => k_is)
    (case k__law_of_weight => k_is)
    (case a__law_rows_of => k_is)
    (case l__law_rows_of => k_is)
    (case c__law_rows_of => k_is)
    (case k__law_rows_of => k_is)
    (case a__law_sorted => k_is)
    (case l__law_sorted => k_is)
    (case c__law_sorted => k_is)
    (case k__law_sorted => k_is)
    (case a__law_down => k_is)
    (case l__law_down => k_is)
    (case c__law_down => k_is)
    (case k__law_down => k_is)
    (case a_law => k_is)
    (case l_law => k_is)
    (case c_law => k_is)
    (case k_law => k_is)
    (case aC => k_is)
    (case a_init => k_is)
    (case i_init => k_is)
    (case l_init => k_is)
    (case c_init => k_is)
    (case k_init => k_is)
    (case pg => k_is)
    (case hd => k_is)
    (case po => k_is)
    (case sa => k_is)
    (case mk => k_is)
    (case kc => k_is)
    (case nW => k_is)
    (case nR => k_is)
    (case ha => k_is)
    (case hn => k_is)
    (case htk => k_is)
    (case hm => k_is)
    (case aS => k_is)
    (case aF => k_is)
    (case aK => k_is)
    (case aWd => k_is)
    (case lW => k_is)
    (case hW => decide)
    (case eW => repeat (first | exact .nil | refine .cons ⟨_, rfl⟩ ?_))
    (case z_isinstance => k_is)
    (case z_str => k_is)
    (case z_list => k_is)
    (case z_tuple => k_is)
    (case z_int => k_is)
    (case z_bool => k_is)
    (case z_dict => k_is)
    (case z_len => k_is)
    (case z_all => k_is)
    (case z_any => k_is)
    (case z_sum => k_is)
    (case z_sorted => k_is)
    (case z_range => k_is)
    (case z_enumerate => k_is)
    (case z_zip => k_is)
#print axioms PySem.Challenge.cw_eithershown_k29_whole_no_row_down_holds
