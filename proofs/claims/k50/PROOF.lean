import PyProof.Rows.All
import Wide.All
import OpenK.AllK
import Wide.FinOn
import PyProof.EqAt
import PyProof.EqKinds
import PyProof.TupleCall
import PyProof.WalksEnum
import KE.KItemsList
import KE.KDictZip
import KE.KDictItemsList
import KE.KCallChange
import KE.KCallJoin
import HandS.ForMost
import HandS.Walk
import HandS.Evl
import HandS.IsInst
import HandS.SortInts
import HandS.Exc
import HandS.TryOnly
import HandS.ExcOwn
import HandS.WordsExc
import HandS.Zip
import HandS.Rev
import HandS.SetKeys
import HandS.Style
import HandS.Conv
import HandS.ExcIs
import HandS.SetFor
import HandS.Set
import HandS.More
import HandS.Wide
import KE.DataMinMax
import PySem.Challenge.RW_unlikerow_k50_no_places_of_live_rows
set_option Elab.async false
set_option linter.all false
set_option maxRecDepth 100000
set_option maxHeartbeats 4000000
/-! list(enumerate(l)), l a list: a new list of new pairs -/
namespace UrE
open PySem PySem.W PySem.Calls PyProof.Rows
open Sem (wp)
theorem enum_no_len : typeLookup (.type "enumerate") "__len__" = pure none := by rw [typeLookup_type, builtinLookup_eq_fast]; kernel_rfl
theorem enum_no_hint : typeLookup (.type "enumerate") "__length_hint__" = pure none := by rw [typeLookup_type, builtinLookup_eq_fast]; kernel_rfl
/-- the enumerate object at e between two turns, the tuples handed out still alive: f the first two fields -/
def Out (h : Heap) (e it S : Addr) (i : Nat) : Prop := ∃ (f0 f1 old : Value), h.get? e = some { cls := .type "enumerate", dict := none, data := .fields #[f0, f1, .ref it, rawInt i, .none, old], slots := #[] } ∧
  ((f0 = .none) ∨ ∃ (a : Addr) (b : Bool) (oa : Obj), f0 = rawInt a ∧ f1 = .bool b ∧ h.get? a = some oa ∧ a ≠ e ∧ a ≠ it ∧ a ≠ S)
section
variable {prog : Program} {w : World} {A : Around} {E : Value → Shared → Prop} {s : Shared}
theorem out_item {e it l S : Addr} {i : Nat} {items : Array Value} {x : Value} {Q : Option Value → Shared → Prop}
    (ho : Out s.heap e it S i) (hit : s.heap.IsListIter it l i) (hl : s.heap.IsList l items) (hx : items[i]? = some x) (hne : e ≠ it) (hSl : S < s.heap.objs.size)
    (hQ : ∀ h' tk, Out h' e it S (i + 1) → h'.IsListIter it l (i + 1) →
      (∃ t, h'.get? s.heap.objs.size = some { cls := .type "tuple", data := .seq #[.int i t, x] }) → h'.objs.size = s.heap.objs.size + 1 →
      (∀ b o, b ≠ e → b ≠ it → s.heap.get? b = some o → h'.get? b = some o) → Q (some (.ref s.heap.objs.size)) { s with heap := h', toks := tk }) :
    wpAny (model prog w) A (pyNext (.ref e)) Q E s := by
  obtain ⟨f0, f1, old, he, hf⟩ := ho
  rcases hf with rfl | ⟨a, b, oa, rfl, rfl, ha, hae, hai, haS⟩
  · have hT : s.TypeIs (.ref e) "enumerate" := ⟨_, he, rfl⟩
    unfold pyNext
    refine wpAny_bind (wpAny_attempt (wpAny_callSpecial?_slot (name := Str.ofString "__next__") hT PySem.F.slot_enumerate_next
      (wpAny_call_entry PySem.F.slot_enumerate_next hT PySem.F.entry_enumerate_next ?_ (PySem.F.args_enumerate_next_1 _))))
    obtain ⟨hp, g, d, tk, os⟩ := s
    show wpAny _ _ (field (.ref e) 2 >>= _) _ _ _
    refine wpAny_bind (wpAny_field he rfl (x := .ref it) rfl ?_)
    refine wpAny_bind (wpAny_nextOf_list_item hit hl hx fun h₁ hit₁ hs₁ => ?_)
    replace hs₁ : Heap.SameBut it hp h₁ := hs₁
    have he₁ := (hs₁.2 e hne).trans he
    show wpAny _ _ (field (.ref e) 3 >>= _) _ _ ⟨h₁, g, d, tk, os⟩
    refine wpAny_bind (wpAny_field he₁ rfl (x := rawInt i) rfl ?_)
    show wpAny _ _ (field (.ref e) 4 >>= _) _ _ ⟨h₁, g, d, tk, os⟩
    refine wpAny_bind (wpAny_field he₁ rfl (x := .none) rfl ?_)
    show wpAny _ _ (mkInt i >>= _) _ _ ⟨h₁, g, d, tk, os⟩
    refine wpAny_bind (wpAny_mkInt ?_)
    show wpAny _ _ (setField (.ref e) 3 (rawInt ((i : Int) + 1)) >>= _) _ _ ⟨h₁, g, d, tk + 1, os⟩
    refine wpAny_bind (wpAny_setField_rec he₁ (by simp) fun h₂ he₂ hs₂ => ?_)
    replace hs₂ : Heap.SameBut e h₁ h₂ := hs₂
    simp only [Array.set!, rawInt] at he₂
    show wpAny _ _ (setField (.ref e) 4 .none >>= _) _ _ ⟨h₂, g, d, tk + 1, os⟩
    refine wpAny_bind (wpAny_setField_rec he₂ (by simp) fun h₃ he₃ hs₃ => ?_)
    replace hs₃ : Heap.SameBut e h₂ h₃ := hs₃
    show wpAny _ _ (newTuple [.int i tk, x] >>= _) _ _ ⟨h₃, g, d, tk + 1, os⟩
    refine wpAny_bind (wpAny_newTuple ?_)
    have he₄ := Heap.get?_push_of_some { cls := .type "tuple", data := .seq #[.int i tk, x] } he₃
    have hel : e < hp.objs.size := Heap.lt_size he
    have hsz : h₃.objs.size = hp.objs.size := by rw [hs₃.1, hs₂.1, hs₁.1]
    generalize hh₄ : h₃.push { cls := .type "tuple", data := .seq #[.int i tk, x] } = h₄ at he₄
    have ht₄ : h₄.get? hp.objs.size = some { cls := .type "tuple", data := .seq #[.int i tk, x] } := by rw [← hh₄, ← hsz]; exact Heap.get?_push_size _ rfl
    have hz₄ : h₄.objs.size = hp.objs.size + 1 := by rw [← hh₄, Heap.size_push, hsz]
    have hk₄ : ∀ b o, b ≠ e → b ≠ it → hp.get? b = some o → h₄.get? b = some o := fun b o hbe hbi hb => by
      rw [← hh₄]; exact Heap.get?_push_of_some _ (hs₃.extBut b o hbe (hs₂.extBut b o hbe (hs₁.extBut b o hbi hb)))
    have hit₄ : h₄.IsListIter it l (i + 1) := by
      rw [← hh₄]; obtain ⟨o, ho, r⟩ := (hit₁.extBut hs₂.extBut (Ne.symm hne)).extBut hs₃.extBut (Ne.symm hne); exact ⟨o, Heap.get?_push_of_some _ ho, r⟩
    show wpAny _ _ (Builtin.SmallTypes.ownedTupleIsFree (.ref e) >>= _) _ _ ⟨h₄, g, d, tk + 1, os⟩
    rw [hsz]
    refine wpAny_bind ?_
    unfold Builtin.SmallTypes.ownedTupleIsFree
    refine wpAny_bind (wpAny_field he₄ rfl (x := .none) rfl (wpAny_pure ?_))
    simp only [if_true]
    refine wpAny_bind (wpAny_rule ?_)
    refine wpAny_bind (wpAny_field he₄ rfl (x := old) rfl ?_)
    refine wpAny_bind (wpAny_setField_rec he₄ (by simp) fun h₅ he₅ hs₅ => ?_)
    replace hs₅ : Heap.SameBut e h₄ h₅ := hs₅
    show wpAny _ _ (Builtin.SmallTypes.ownedTupleHandOut (.ref e) (.ref hp.objs.size) >>= _) _ _ ⟨h₅, g, d, tk + 1, os⟩
    refine wpAny_bind ?_
    unfold Builtin.SmallTypes.ownedTupleHandOut
    refine wpAny_bind (wpAny_setField_rec he₅ (by simp) fun h₆ he₆ hs₆ => ?_)
    replace hs₆ : Heap.SameBut e h₅ h₆ := hs₆
    refine wpAny_setField_rec he₆ (by simp) fun h₇ he₇ hs₇ => ?_
    replace hs₇ : Heap.SameBut e h₆ h₇ := hs₇
    have t7 : h₇.get? hp.objs.size = some { cls := .type "tuple", data := .seq #[.int i tk, x] } := hs₇.extBut _ _ (Nat.ne_of_gt hel) (hs₆.extBut _ _ (Nat.ne_of_gt hel) (hs₅.extBut _ _ (Nat.ne_of_gt hel) ht₄))
    have hil : it < hp.objs.size := by obtain ⟨o, z, _⟩ := hit; exact Heap.lt_size z
    refine wpAny_bind (wpAny_letGo (wpAny_pure ⟨_, rfl, wpAny_pure (hQ h₇ (tk + 1) ⟨rawInt hp.objs.size, .bool false, x, ?_, Or.inr ⟨hp.objs.size, false, _, rfl, rfl, t7, Nat.ne_of_gt hel, Nat.ne_of_gt hil, Nat.ne_of_gt hSl⟩⟩ ?_ ⟨tk, t7⟩ ?_ ?_)⟩))
    · simpa [rawInt, Array.set!] using he₇
    · exact ((hit₄.extBut hs₅.extBut (Ne.symm hne)).extBut hs₆.extBut (Ne.symm hne)).extBut hs₇.extBut (Ne.symm hne)
    · rw [hs₇.1, hs₆.1, hs₅.1, hz₄]
    · exact fun b o hbe hbi hb => hs₇.extBut b o hbe (hs₆.extBut b o hbe (hs₅.extBut b o hbe (hk₄ b o hbe hbi hb)))
  · have hT : s.TypeIs (.ref e) "enumerate" := ⟨_, he, rfl⟩
    unfold pyNext
    refine wpAny_bind (wpAny_attempt (wpAny_callSpecial?_slot (name := Str.ofString "__next__") hT PySem.F.slot_enumerate_next
      (wpAny_call_entry PySem.F.slot_enumerate_next hT PySem.F.entry_enumerate_next ?_ (PySem.F.args_enumerate_next_1 _))))
    obtain ⟨hp, g, d, tk, os⟩ := s
    show wpAny _ _ (field (.ref e) 2 >>= _) _ _ _
    refine wpAny_bind (wpAny_field he rfl (x := .ref it) rfl ?_)
    refine wpAny_bind (wpAny_nextOf_list_item hit hl hx fun h₁ hit₁ hs₁ => ?_)
    replace hs₁ : Heap.SameBut it hp h₁ := hs₁
    have he₁ := (hs₁.2 e hne).trans he
    show wpAny _ _ (field (.ref e) 3 >>= _) _ _ ⟨h₁, g, d, tk, os⟩
    refine wpAny_bind (wpAny_field he₁ rfl (x := rawInt i) rfl ?_)
    show wpAny _ _ (field (.ref e) 4 >>= _) _ _ ⟨h₁, g, d, tk, os⟩
    refine wpAny_bind (wpAny_field he₁ rfl (x := .none) rfl ?_)
    show wpAny _ _ (mkInt i >>= _) _ _ ⟨h₁, g, d, tk, os⟩
    refine wpAny_bind (wpAny_mkInt ?_)
    show wpAny _ _ (setField (.ref e) 3 (rawInt ((i : Int) + 1)) >>= _) _ _ ⟨h₁, g, d, tk + 1, os⟩
    refine wpAny_bind (wpAny_setField_rec he₁ (by simp) fun h₂ he₂ hs₂ => ?_)
    replace hs₂ : Heap.SameBut e h₁ h₂ := hs₂
    simp only [Array.set!, rawInt] at he₂
    show wpAny _ _ (setField (.ref e) 4 .none >>= _) _ _ ⟨h₂, g, d, tk + 1, os⟩
    refine wpAny_bind (wpAny_setField_rec he₂ (by simp) fun h₃ he₃ hs₃ => ?_)
    replace hs₃ : Heap.SameBut e h₂ h₃ := hs₃
    show wpAny _ _ (newTuple [.int i tk, x] >>= _) _ _ ⟨h₃, g, d, tk + 1, os⟩
    refine wpAny_bind (wpAny_newTuple ?_)
    have he₄ := Heap.get?_push_of_some { cls := .type "tuple", data := .seq #[.int i tk, x] } he₃
    have hel : e < hp.objs.size := Heap.lt_size he
    have hsz : h₃.objs.size = hp.objs.size := by rw [hs₃.1, hs₂.1, hs₁.1]
    generalize hh₄ : h₃.push { cls := .type "tuple", data := .seq #[.int i tk, x] } = h₄ at he₄
    have ht₄ : h₄.get? hp.objs.size = some { cls := .type "tuple", data := .seq #[.int i tk, x] } := by rw [← hh₄, ← hsz]; exact Heap.get?_push_size _ rfl
    have hz₄ : h₄.objs.size = hp.objs.size + 1 := by rw [← hh₄, Heap.size_push, hsz]
    have hk₄ : ∀ b o, b ≠ e → b ≠ it → hp.get? b = some o → h₄.get? b = some o := fun b o hbe hbi hb => by
      rw [← hh₄]; exact Heap.get?_push_of_some _ (hs₃.extBut b o hbe (hs₂.extBut b o hbe (hs₁.extBut b o hbi hb)))
    have hit₄ : h₄.IsListIter it l (i + 1) := by
      rw [← hh₄]; obtain ⟨o, ho, r⟩ := (hit₁.extBut hs₂.extBut (Ne.symm hne)).extBut hs₃.extBut (Ne.symm hne); exact ⟨o, Heap.get?_push_of_some _ ho, r⟩
    have ha₄ := hk₄ a oa hae hai ha
    have hil : it < hp.objs.size := by obtain ⟨o, z, _⟩ := hit; exact Heap.lt_size z
    show wpAny _ _ (Builtin.SmallTypes.ownedTupleIsFree (.ref e) >>= _) _ _ ⟨h₄, g, d, tk + 1, os⟩
    rw [hsz]
    refine wpAny_bind ?_
    unfold Builtin.SmallTypes.ownedTupleIsFree
    refine wpAny_bind (wpAny_field he₄ rfl (x := rawInt a) rfl ?_)
    show wpAny _ _ (loadIfAlive a >>= _) _ _ _
    refine wpAny_bind (kdx_alive ha₄ ?_)
    show wpAny _ _ (field (.ref e) 1 >>= _) _ _ _
    refine wpAny_bind (wpAny_field he₄ rfl (x := .bool b) rfl ?_)
    refine wpAny_ite_split (fun _ => ?_) (fun hb => ?_)
    · refine wpAny_bind (wpAny_setField_rec he₄ (by simp) fun h₅ he₅ hs₅ => ?_)
      replace hs₅ : Heap.SameBut e h₄ h₅ := hs₅
      have t5 := hs₅.extBut _ _ (Nat.ne_of_gt hel) ht₄
      refine wpAny_pure ?_
      simp only [Bool.false_eq_true, if_false]
      refine wpAny_pure ⟨_, rfl, wpAny_pure (hQ h₅ (tk + 1) ⟨rawInt a, .bool true, old, ?_, Or.inr ⟨a, true, oa, rfl, rfl, hs₅.extBut _ _ hae ha₄, hae, hai, haS⟩⟩ (hit₄.extBut hs₅.extBut (Ne.symm hne)) ⟨tk, t5⟩ ?_ ?_)⟩
      · simpa [rawInt, Array.set!] using he₅
      · rw [hs₅.1, hz₄]
      · exact fun b o hbe hbi hb => hs₅.extBut b o hbe (hk₄ b o hbe hbi hb)
    · refine wpAny_pure ?_
      simp only [Bool.false_eq_true, if_false]
      refine wpAny_pure ⟨_, rfl, wpAny_pure (hQ h₄ (tk + 1) ⟨rawInt a, .bool b, old, ?_, Or.inr ⟨a, b, oa, rfl, rfl, ha₄, hae, hai, haS⟩⟩ hit₄ ⟨tk, ht₄⟩ hz₄ hk₄)⟩
      simpa [rawInt, Array.set!] using he₄
theorem out_end {e it l S : Addr} {i : Nat} {items : Array Value} {Q : Option Value → Shared → Prop} (hh : A.handled = none)
    (ho : Out s.heap e it S i) (hit : s.heap.IsListIter it l i) (hl : s.heap.IsList l items) (hx : items[i]? = none)
    (hQ : ∀ h', Heap.ExtBut it s.heap h' → Q none { s with heap := h' }) : wpAny (model prog w) A (pyNext (.ref e)) Q E s := by
  obtain ⟨f0, f1, old, he, _⟩ := ho
  have hT : s.TypeIs (.ref e) "enumerate" := ⟨_, he, rfl⟩
  unfold pyNext
  refine wpAny_bind (wpAny_attempt (wpAny_callSpecial?_slot (name := Str.ofString "__next__") hT PySem.F.slot_enumerate_next
    (wpAny_call_entry PySem.F.slot_enumerate_next hT PySem.F.entry_enumerate_next ?_ (PySem.F.args_enumerate_next_1 _))))
  show wpAny _ _ (field (.ref e) 2 >>= _) _ _ _
  refine wpAny_bind (wpAny_field he rfl (x := .ref it) rfl ?_)
  refine wpAny_bind (wpAny_nextOf_list_end hh hit hl hx fun h' x he' hx' => ?_)
  obtain ⟨o, ho, hc⟩ := hx'
  refine wpAny_bind (wpAny_isInstance (T := "StopIteration") (b := true) ⟨o, ho, hc⟩ isSubtype_stop ?_)
  exact wpAny_pure (hQ _ he')
end
end UrE
namespace UrE
open PySem PySem.W PySem.Calls PyProof.Rows
structure EnG (items : Array Value) (lo : Addr) (h : Heap) (as : List Addr) : Prop where
  rise : as.Pairwise (· < ·)
  above : ∀ a ∈ as, lo < a
  pairs : ∀ (j : Nat) (a : Addr), as[j]? = some a → ∃ t x, items[j]? = some x ∧ h.get? a = some { cls := .type "tuple", data := .seq #[.int j t, x] }
theorem EnG.there {items : Array Value} {lo : Addr} {h : Heap} {as : List Addr} (g : EnG items lo h as) {a : Addr} (ha : a ∈ as) : a < h.objs.size := by
  obtain ⟨j, hj⟩ := List.mem_iff_getElem?.mp ha
  obtain ⟨_, _, _, e⟩ := g.pairs j a hj
  exact Heap.lt_size e
section
variable {prog : Program} {w : World} {A : Around} {s : Shared} {R : Result → Shared → Prop} {items : Array Value}
theorem en_loop {S e it l : Addr} (hh : A.handled = none) (hei : e ≠ it) (hle : l ≠ e) (hli : l ≠ it) (heS : e < S) (hiS : it < S) (hlS : l ≠ S) (hn : items.size ≤ sizeLine) (res : Value) {h₁ : Heap}
    (hR : ∀ h' tk acc c as, (∀ b o, b ≠ S → b ≠ e → b ≠ it → h₁.get? b = some o → h'.get? b = some o) → h'.get? S = some { cls := .type "list", dict := none, data := .seq acc c, slots := #[] } → as.length = items.size → EnG items S h' as →
      acc.toList = as.map Value.ref → R (.ok (.ret res)) { s with heap := h', toks := tk }) :
    ∀ (k i : Nat) (h : Heap) (tk c : Nat) (acc : Array Value) (as : List Addr), items.size - i = k → i ≤ items.size → Out h e it S i → h.IsListIter it l i → h.IsList l items → (∀ b o, b ≠ S → b ≠ e → b ≠ it → h₁.get? b = some o → h.get? b = some o) →
      h.get? S = some { cls := .type "list", dict := none, data := .seq acc c, slots := #[] } → acc.toList = as.map Value.ref → as.length = i → EnG items S h as →
      codeAny (model prog w) A (.builtin "list.extend.loop" ⟨[.ref S, .ref e, res], []⟩) R { s with heap := h, toks := tk } := by
  intro k
  induction k with
  | zero =>
    intro i h tk c acc as hk hi hst hit hl hkeep hS hacc hal hG
    have hin : i = items.size := by omega
    refine codeAny_builtin PySem.F.entry_extend_loop ?_
    rw [Around.under_plainId PySem.F.plain_extend_loop _]
    show wpAny _ A.in1 (pyNext (.ref e) >>= _) _ _ _
    refine wpAny_bind (out_end (s := { s with heap := h, toks := tk }) (A := A.in1) hh hst hit hl (Array.getElem?_eq_none (by omega)) fun h' he => ?_)
    refine wpAny_pure (hR h' tk acc c as (fun b o h1 h2 h3 e => he b o h3 (hkeep b o h1 h2 h3 e)) (he S _ (Nat.ne_of_gt hiS) hS) (by omega) ⟨hG.rise, hG.above, fun j a hj => ?_⟩ hacc)
    obtain ⟨t, x, e2, e3⟩ := hG.pairs j a hj
    exact ⟨t, x, e2, he a _ (Nat.ne_of_gt (Nat.lt_trans hiS (hG.above a (List.mem_of_getElem? hj)))) e3⟩
  | succ k ih =>
    intro i h tk c acc as hk hi hst hit hl hkeep hS hacc hal hG
    have hlt : i < items.size := by omega
    have hsz : acc.size = i := by rw [← Array.length_toList, hacc, List.length_map, hal]
    refine codeAny_builtin PySem.F.entry_extend_loop ?_
    rw [Around.under_plainId PySem.F.plain_extend_loop _]
    show wpAny _ A.in1 (pyNext (.ref e) >>= _) _ _ _
    refine wpAny_bind (out_item (s := { s with heap := h, toks := tk }) hst hit hl (Array.getElem?_eq_getElem hlt) hei (Heap.lt_size hS) fun h' tk' hst' hit' ht hz hkp => ?_)
    dsimp only at ht hz hkp ⊢
    obtain ⟨t, ht⟩ := ht
    have hSl : S < h.objs.size := Heap.lt_size hS
    have hS' := hkp S _ (Nat.ne_of_gt heS) (Nat.ne_of_gt hiS) hS
    have up : ∀ b o, b ≠ S → h'.get? b = some o → (h'.update S (Obj.mapSeq (·.push (Value.ref h.objs.size)))).get? b = some o := fun b o hb e => (Heap.get?_update_other _ _ (Ne.symm hb)).trans e
    have upI : ∀ (h2 : Heap), (∀ b o, b ≠ S → h'.get? b = some o → h2.get? b = some o) → Out h2 e it S (i + 1) := fun h2 k2 => by
      obtain ⟨f0, f1, old, e1, hf⟩ := hst'
      refine ⟨f0, f1, old, k2 _ _ (Nat.ne_of_lt heS) e1, ?_⟩
      rcases hf with z | ⟨a, b, oa, z1, z2, z3, z4, z5, z6⟩
      · exact Or.inl z
      · exact Or.inr ⟨a, b, oa, z1, z2, k2 a oa z6 z3, z4, z5, z6⟩
    show wpAny _ A.in1 (updateSeq S (·.push (Value.ref h.objs.size)) >>= _) _ _ _
    refine wpAny_bind ?_
    refine wpAny_updateSeq hS' rfl (wpAny_pure ⟨plainId_quiet PySem.F.plain_extend_loop _, ih (i + 1) _ tk' _ (acc.push (Value.ref h.objs.size)) (as ++ [h.objs.size]) (by omega) hlt (upI _ up)
      (hit'.at fun o z => up it o (Nat.ne_of_lt hiS) z) ((hl.at fun o z => hkp l o hle hli z).at fun o z => up l o hlS z)
      (fun b o h1 h2 h3 z => up b o h1 (hkp b o h2 h3 (hkeep b o h1 h2 h3 z))) (Heap.get?_update_self _ hS' rfl) (by rw [Array.toList_push, hacc, List.map_append]; rfl) (by rw [List.length_append, hal]; rfl) ⟨?_, ?_, ?_⟩⟩) (by rw [hsz]; omega) (by show (acc.push (Value.ref h.objs.size)).size ≤ sizeLine + 1; rw [Array.size_push, hsz]; omega)
    · refine List.pairwise_append.mpr ⟨hG.rise, List.pairwise_singleton _ _, fun a ha b hb => ?_⟩
      rw [List.mem_singleton.mp hb]
      exact hG.there ha
    · intro a ha
      rcases List.mem_append.mp ha with ha | ha
      · exact hG.above a ha
      · rw [List.mem_singleton.mp ha]; exact hSl
    · intro j b hj
      rcases Nat.lt_trichotomy j as.length with h1 | h1 | h1
      · rw [List.getElem?_append_left h1] at hj
        obtain ⟨t3, x3, e2, e3⟩ := hG.pairs j b hj
        have hb := hG.above b (List.mem_of_getElem? hj)
        exact ⟨t3, x3, e2, up b _ (Nat.ne_of_gt hb) (hkp b _ (Nat.ne_of_gt (Nat.lt_trans heS hb)) (Nat.ne_of_gt (Nat.lt_trans hiS hb)) e3)⟩
      · subst h1
        have hb : h.objs.size = b := by simpa using hj
        subst hb
        subst hal
        exact ⟨t, _, Array.getElem?_eq_getElem hlt, up _ _ (Nat.ne_of_gt hSl) ht⟩
      · have hnone : (as ++ [h.objs.size])[j]? = none := List.getElem?_eq_none (by rw [List.length_append, List.length_singleton]; omega)
        rw [hnone] at hj; cases hj
end
section
variable {prog : Program} {w : World} {A : Around} {E : Value → Shared → Prop} {s : Shared} {items : Array Value} {e it l : Addr}
theorem en_extend {R : Result → Shared → Prop} (hh : A.handled = none) (he : IsEnum s.heap e it 0 .none) (hit : s.heap.IsListIter it l 0) (hl : s.heap.IsList l items) (hei : e ≠ it) (hle : l ≠ e) (hli : l ≠ it) (S : Addr) (heS : e < S) (hiS : it < S) (hlS : l ≠ S) (res : Value) (c₀ : Nat) (hS : s.heap.get? S = some { cls := .type "list", data := .seq #[] c₀ })
    (hR : ∀ h' tk acc c as, (∀ b o, b ≠ S → b ≠ e → b ≠ it → s.heap.get? b = some o → h'.get? b = some o) → h'.get? S = some { cls := .type "list", dict := none, data := .seq acc c, slots := #[] } → as.length = items.size → EnG items S h' as →
      acc.toList = as.map Value.ref → R (.ok (.ret res)) { s with heap := h', toks := tk }) (hn : items.size ≤ sizeLine) :
    wpAny (model prog w) A.in1 (Builtin.List.listExtendWith (.ref S) (.ref e) res)
      (fun fin s' => match fin with | .done f => R (.ok f) s' | .again c' => c'.quiet = true ∧ codeAny (model prog w) A c' R s') (fun e s' => R (.error e) s') s := by
  have hT : ∀ (h : Heap) (g : Shared), g.heap = h → IsEnum h e it 0 .none → g.TypeIs (.ref e) "enumerate" := fun h g e1 e2 => by
    subst e1
    exact ⟨_, e2, rfl⟩
  unfold Builtin.List.listExtendWith
  refine wpAny_bind (wpAny_typeOf (T := "enumerate") (hT _ _ rfl he) ?_)
  have h1 : Builtin.List.listSameRef (.ref S) (.ref e) = false := by simp [Builtin.List.listSameRef, Nat.ne_of_gt heS]
  have h2 : (Value.type "enumerate" == Value.type "list") = false := by decide
  have h3 : (Value.type "enumerate" == Value.type "tuple") = false := by decide
  simp only [h1, h2, h3, Bool.or_false, Bool.false_eq_true, if_false]
  refine wpAny_bind (wpAny_pyIter_enum he ?_)
  refine wpAny_bind (wpAny_holding ?_)
  unfold Builtin.List.listLengthHint
  refine wpAny_bind (wpAny_specialOf (hT _ _ rfl he) enum_no_len ?_)
  show wpAny _ _ (specialOf (Value.ref e) (Str.ofString "__length_hint__") >>= _) _ _ _
  refine wpAny_bind (wpAny_specialOf (hT _ _ rfl he) enum_no_hint ?_)
  refine wpAny_pure ?_
  show wpAny _ _ (rule "list.extend.makes-room" >>= fun _ => Builtin.List.listTouch (.ref S) >>= fun _ =>
    again (.builtin "list.extend.loop" ⟨[.ref S, .ref e, res], []⟩)) _ _ _
  refine wpAny_bind (wpAny_rule ?_)
  refine wpAny_bind ?_
  show wpAny _ _ (updateSeq S (·.push .none) >>= fun _ => updateSeq S (·.pop)) _ _ _
  refine wpAny_bind (wpAny_updateSeq hS rfl ?_)
  have hS₂ := Heap.get?_update_self (Obj.mapSeq (·.push Value.none)) hS rfl
  refine wpAny_updateSeq (hz := by seq_fits) hS₂ rfl ?_
  have hS₃ := Heap.get?_update_self (Obj.mapSeq (·.pop)) hS₂ rfl
  have oth : ∀ b o, b ≠ S → s.heap.get? b = some o → ((s.heap.update S (Obj.mapSeq (·.push Value.none))).update S (Obj.mapSeq (·.pop))).get? b = some o :=
    fun b o hb e => (Heap.get?_update_other _ _ (Ne.symm hb)).trans ((Heap.get?_update_other _ _ (Ne.symm hb)).trans e)
  refine wpAny_pure ⟨plainId_quiet PySem.F.plain_extend_loop _, ?_⟩
  exact en_loop (s := s) (h₁ := s.heap) hh hei hle hli heS hiS hlS hn res hR items.size 0 _ _ _ #[] [] (Nat.sub_zero _) (Nat.zero_le _) ⟨.none, .bool false, .none, oth e _ (Nat.ne_of_lt heS) he, Or.inl rfl⟩
    (hit.at fun o z => oth it o (Nat.ne_of_lt hiS) z) (hl.at fun o z => oth l o hlS z) (fun b o hb _ _ z => oth b o hb z) hS₃ rfl rfl ⟨List.Pairwise.nil, (fun _ ha => nomatch ha), (fun j a hj => by simp at hj)⟩
theorem en_call {Q : Value → Shared → Prop} (hh : A.handled = none) (he : IsEnum s.heap e it 0 .none) (hit : s.heap.IsListIter it l 0) (hl : s.heap.IsList l items) (hei : e ≠ it) (hle : l ≠ e) (hli : l ≠ it) (hn : items.size ≤ sizeLine)
    (hQ : ∀ h' tk acc c as, (∀ b o, b ≠ e → b ≠ it → s.heap.get? b = some o → h'.get? b = some o) → h'.get? s.heap.objs.size = some { cls := .type "list", dict := none, data := .seq acc c, slots := #[] } → as.length = items.size → EnG items s.heap.objs.size h' as →
      acc.toList = as.map Value.ref → Q (.ref s.heap.objs.size) { s with heap := h', toks := tk }) :
    wpAny (model prog w) A (call (.type "list") [.ref e]) Q E s := by
  refine callType_codes (Q₁ := fun obj s₁ => obj = .ref s.heap.objs.size ∧ s₁ = { s with heap := s.heap.push { cls := .type "list", data := .seq #[] } }) PySem.F.called_list (PySem.F.typeCall_list_1 _) PySem.F.entry_list_init
    (code_list_new _ ⟨rfl, rfl⟩) fun obj s₁ h₁ => ?_
  obtain ⟨rfl, rfl⟩ := h₁
  have hS : (s.heap.push { cls := .type "list", data := .seq #[] }).get? s.heap.objs.size = some { cls := .type "list", data := .seq #[] } := Heap.get?_push_size _ rfl
  have hel : e < s.heap.objs.size := Heap.lt_size he
  have hil : it < s.heap.objs.size := let ⟨_, z, _⟩ := hit; Heap.lt_size z
  have hll : l < s.heap.objs.size := let ⟨_, z, _⟩ := hl; Heap.lt_size z
  refine ⟨⟨_, hS, rfl⟩, PySem.F.args_list_init_2 _ _, ?_⟩
  show wpAny _ _ (do let old ← Builtin.List.listItems (.ref s.heap.objs.size); Builtin.List.listUpdate (.ref s.heap.objs.size) (fun _ => #[]); letGo old.toList.reverse; Builtin.List.listExtendWith (.ref s.heap.objs.size) (.ref e) .none) _ _ _
  refine wpAny_bind ?_
  unfold Builtin.List.listItems
  refine wpAny_bind (wpAny_seqItems hS rfl (wpAny_pure ?_))
  show wpAny _ _ (updateSeq s.heap.objs.size (fun _ => #[]) >>= fun _ => letGo (#[] : Array Value).toList.reverse >>= fun _ => Builtin.List.listExtendWith (.ref s.heap.objs.size) (.ref e) .none) _ _ _
  refine wpAny_bind (wpAny_updateSeq hS rfl ?_)
  have hS₂ := Heap.get?_update_self (Obj.mapSeq (fun _ => (#[] : Array Value))) hS rfl
  have oth : ∀ b o, s.heap.get? b = some o → ((s.heap.push { cls := .type "list", data := .seq #[] }).update s.heap.objs.size (Obj.mapSeq (fun _ => (#[] : Array Value)))).get? b = some o :=
    fun b o z => (Heap.get?_update_other _ _ (Nat.ne_of_gt (Heap.lt_size z))).trans (Heap.get?_push_of_some _ z)
  refine wpAny_bind (wpAny_letGo ?_)
  refine en_extend (A := A.in1) hh (oth e _ he) (hit.at fun o z => oth it o z) (hl.at fun o z => oth l o z) hei hle hli _ hel hil (Nat.ne_of_lt hll) .none _ hS₂ (fun h' tk acc c as hk hS' hl2 hG hacc => ?_) hn
  exact ⟨rfl, hQ h' tk acc c as (fun b o h1 h2 z => hk b o (Nat.ne_of_lt (Heap.lt_size z)) h1 h2 (oth b o z)) hS' hl2 hG hacc⟩
end
end UrE
namespace UrE
open PySem PySem.Spec PyProof.Rows L2
/-- tuples tracked at their addresses -/
def putG : Hp → List Addr → List (List V) → Hp
  | H, a :: as, c :: cs => putG (upd H a (.tup c)) as cs
  | H, _, _ => H
theorem putG_off {b : Addr} : ∀ (as : List Addr) (cs : List (List V)) (H : Hp), b ∉ as → putG H as cs b = H b
  | [], _, _, _ => rfl
  | _ :: _, [], _, _ => rfl
  | a :: as, c :: cs, H, h => by
    show putG (upd H a (.tup c)) as cs b = H b
    rw [putG_off as cs _ (fun z => h (List.mem_cons_of_mem _ z)), upd_ne (fun z => h (by rw [z]; exact List.mem_cons_self))]
theorem putG_at : ∀ (as : List Addr) (cs : List (List V)) (H : Hp), as.length = cs.length → as.Nodup → ∀ (j : Nat) (a : Addr), as[j]? = some a → ∃ c, cs[j]? = some c ∧ putG H as cs a = some (.tup c)
  | [], _, _, _, _, j, a, h => by simp at h
  | _ :: _, [], _, h, _, _, _, _ => by cases h
  | a :: as, c :: cs, H, h, hn, 0, b, e => by
    have hn' := List.nodup_cons.mp hn
    have e' : a = b := by simpa using e
    subst e'
    refine ⟨c, rfl, ?_⟩
    show putG (upd H a (.tup c)) as cs a = some (.tup c)
    rw [putG_off as cs _ hn'.1, upd_same]
  | a :: as, c :: cs, H, h, hn, j + 1, b, e => by
    have hn' := List.nodup_cons.mp hn
    exact putG_at as cs (upd H a (.tup c)) (Nat.succ.inj h) hn'.2 j b (by simpa using e)
/-- a new list of new tuples -/
def NewPairs (H : Hp) (cs : List (List V)) (p : Addr) (ts : List Addr) (H' : Hp) : Prop :=
  Same H H' ∧ H p = none ∧ (∀ t ∈ ts, H t = none) ∧ p ∉ ts ∧ ts.Nodup ∧ ts.length = cs.length ∧ H' p = some (.lst (ts.map V.ref)) ∧ ∀ (j : Nat) (c : List V), cs[j]? = some c → ∃ t, ts[j]? = some t ∧ H' t = some (.tup c)
theorem refs_vals : ∀ as : List Addr, Vals (as.map V.ref) (as.map Value.ref)
  | [] => .nil
  | _ :: as => .cons rfl (refs_vals as)
section
variable {X : Cx} {e : Expr} {ta : TA} {p p2 cpos pos : Pos}
theorem laid_pairs {pins : List (Addr × Obj)} {σ : L2.St} {H : Hp} {s : Shared} {h' : Heap} {tk : Nat} {cs : List (List V)} {acc : Array Value} {c S : Nat} {as : List Addr} (I : Inv X pins σ H s) (hz : cs.length ≤ sizeLine) (hS0 : s.heap.objs.size ≤ S)
    (hk : ∀ b o, s.heap.get? b = some o → h'.get? b = some o) (hS : h'.get? S = some { cls := .type "list", dict := none, data := .seq acc c, slots := #[] }) (hl : as.length = cs.length) (hr : as.Pairwise (· < ·)) (hab : ∀ a ∈ as, S < a)
    (ht : ∀ (j : Nat) (a : Addr) (c : List V), as[j]? = some a → cs[j]? = some c → c.length ≤ sizeLine ∧ ∃ us, Vals c us ∧ IsTup h' a us.toArray) (hacc : acc.toList = as.map Value.ref) :
    ∃ H' : Hp, NewPairs H cs S as H' ∧ Inv X pins σ H' { s with heap := h', toks := tk } := by
  have hSn : S ∉ as := fun z => Nat.lt_irrefl _ (hab _ z)
  have nd : as.Nodup := List.Pairwise.imp (fun {a b} (h : a < b) => Nat.ne_of_lt h) hr
  have new : ∀ t ∈ as, H t = none := fun t ht => I.hok.fresh (Nat.le_of_lt (Nat.lt_of_le_of_lt hS0 (hab t ht)))
  have newS : H S = none := I.hok.fresh hS0
  have atP := putG_at as cs (upd H S (.lst (as.map V.ref))) hl nd
  have off : ∀ b, b ∉ as → b ≠ S → putG (upd H S (.lst (as.map V.ref))) as cs b = H b := fun b h1 h2 => by rw [putG_off as cs _ h1, upd_ne h2]
  have low : ∀ b o, s.heap.get? b = some o → b ∉ as ∧ b ≠ S := fun b o e => ⟨fun z => absurd (Heap.lt_size e) (Nat.not_lt.mpr (Nat.le_of_lt (Nat.lt_of_le_of_lt hS0 (hab b z)))), Nat.ne_of_lt (Nat.lt_of_lt_of_le (Heap.lt_size e) hS0)⟩
  have kp : ∀ b u, H b = some u → (putG (upd H S (.lst (as.map V.ref))) as cs) b = some u := fun b u e => by
    rw [off b (fun z => by rw [new b z] at e; cases e) (fun z => by rw [z, newS] at e; cases e)]
    exact e
  have eS : putG (upd H S (.lst (as.map V.ref))) as cs S = some (.lst (as.map V.ref)) := by rw [putG_off as cs _ hSn, upd_same]
  refine ⟨putG (upd H S (.lst (as.map V.ref))) as cs, ⟨kp, newS, new, hSn, nd, hl, eS, fun j c hc => ?_⟩, ?_⟩
  · have hj : j < as.length := by rw [hl]; exact (List.getElem?_eq_some_iff.mp hc).1
    obtain ⟨c', h1, h2⟩ := atP j as[j] (List.getElem?_eq_getElem hj)
    rw [hc] at h1
    cases h1
    exact ⟨as[j], List.getElem?_eq_getElem hj, h2⟩
  refine I.call' (ch := []) rfl ⟨fun b o q _ _ _ => hk b o q, fun b o q _ _ _ => ⟨o.slots, hk b o q⟩, fun b o q n _ => ?_, fun b o q _ => ⟨o, hk b o q⟩, fun b xs q => kp b _ q, fun b o u q => kp b _ q, fun b ps q => ⟨#[], by rw [kp b _ q]; simp⟩⟩ (fun b u q => ?_) I.bare fun b z => by simp at z
  · obtain ⟨z1, z2⟩ := low b o q
    rw [off b z1 z2]
    exact n
  · by_cases hb : b ∈ as
    · obtain ⟨j, e1⟩ := List.mem_iff_getElem?.mp hb
      obtain ⟨c', e2, e3⟩ := atP j b e1
      rw [e3] at q
      cases q
      obtain ⟨z, us, r, tt⟩ := ht j b c' e1 e2
      exact ⟨z, us, r, tt⟩
    · by_cases hb2 : b = S
      · rw [hb2] at q ⊢
        rw [eS] at q
        cases q
        refine ⟨by rw [List.length_map]; omega, acc.toList, c, by rw [hacc]; exact refs_vals as, ?_⟩
        rw [Array.toArray_toList]
        exact hS
      · rw [off b hb hb2] at q
        exact (I.hok b u q).stay (fun d v _ y => hk d v y) (fun d y => kp d _ y) fun d xs y => kp d _ y
/-- the pairs (i, x) of a list -/
def enumC (xs : List V) : List (List V) := xs.zipIdx.map fun p => [.int (p.2 : Nat), p.1]
theorem enumC_len (xs : List V) : (enumC xs).length = xs.length := by simp [enumC]
theorem enumC_get {xs : List V} {j : Nat} : (enumC xs)[j]? = (xs[j]?).map fun x => [.int (j : Nat), x] := by
  unfold enumC
  rw [List.getElem?_map, List.getElem?_zipIdx]
  cases xs[j]? with
  | none => rfl
  | some x => simp
def tListEnum (K : PySem.W.Frag) (ta : TA) : TE := fun σ H Q => ta σ H fun vs H1 => ∃ a xs, vs = [.ref a] ∧ SqL K H1 a xs ∧ ∀ p ts H', NewPairs H1 (enumC xs) p ts H' → Q (.ref p) H'
theorem pe_list_enum (hc : X.calm = true) (hm : X.mg "list" = none) (hm2 : X.mg "enumerate" = none) (hg2 : Gl X "enumerate") (ha : PA X [e] ta) (hg : Gl X "list" := by rfl) (hs : starEach [e] X.env = [(false, eval e X.env)] := by rfl)
    (hs2 : starEach [.Call (.Name "enumerate" p2) [e] [] cpos] X.env = (false, eval (.Call (.Name "enumerate" p2) [e] [] cpos) X.env) :: starEach [] X.env := by rfl) :
    PE X (.Call (.Name "list" p) [.Call (.Name "enumerate" p2) [e] [] cpos] [] pos) (tListEnum X.K ta) := by
  refine ⟨fun pins s σ H Q I h => ?_⟩
  refine wpAny_Call_Name_kw (ld_blt I hg hm (by decide +kernel : bootBuiltins "list" = some (.type "list")) ?_)
  refine PyProof.Rows.callWith_type1 ?_ hs2 rfl
  rw [hs2]
  show wpAny _ _ (spliced ((false, eval (.Call (.Name "enumerate" p2) [e] [] cpos) X.env) :: backTo pos (starEach [] X.env))) _ _ s
  refine Calls.spliced_cons ?_
  refine Call_ (ld_blt I hg2 hm2 boot_enumerate (PyProof.Rows.callWith_type1 (thn (ha.run cpos pins s σ H _ I h) fun us s1 ⟨vs, H1, I1, r1, q1⟩ => ?_) hs rfl))
  obtain ⟨a, xs, ex, hq, q⟩ := q1
  subst ex
  cases r1 with
  | cons r rr =>
    cases rr
    cases r
    obtain ⟨its, rv, p', hz⟩ := I1.list hq
    refine call_enumerate_list p'.isList fun h' he hit hsz hk => ?_
    refine Calls.spliced_nil ?_
    have hla : a < s1.heap.objs.size := let ⟨_, z, _⟩ := p'.isList; Heap.lt_size z
    have hL' : h'.IsList a its.toArray := p'.isList.at fun o z => hk a o z
    have hlen : its.length = xs.length := (Vals.length rv).symm
    refine en_call (s := { s1 with heap := h' }) (I1.ok.hd hc) he hit hL' (Nat.succ_ne_self _) (Nat.ne_of_lt (Nat.lt_succ_of_lt hla)) (Nat.ne_of_lt hla) (by rw [List.size_toArray, hlen]; exact hz) fun h2 tk acc c as hk2 hS hl hG hacc => ?_
    have hsz' : h'.objs.size = s1.heap.objs.size + 2 := hsz
    obtain ⟨H', N, J⟩ := laid_pairs (I := I1) (h' := h2) (tk := tk) (cs := enumC xs) (acc := acc) (c := c) (S := h'.objs.size) (as := as) (by rw [enumC_len]; exact hz) (by omega)
      (fun b o z => hk2 b o (Nat.ne_of_lt (Nat.lt_succ_of_lt (Heap.lt_size z))) (Nat.ne_of_lt (Heap.lt_size z)) (hk b o z)) hS (by rw [hl, enumC_len, List.size_toArray, hlen]) hG.rise hG.above
      (fun j b c e1 e2 => by
        rw [enumC_get] at e2
        cases hx : xs[j]? with
        | none => rw [hx] at e2; cases e2
        | some x =>
          rw [hx] at e2
          have e3 : [V.int (j : Nat), x] = c := by simpa using e2
          subst e3
          obtain ⟨t, y, f1, f2⟩ := hG.pairs j b e1
          obtain ⟨u, g1, g2⟩ := rv.get hx
          have f1' : its[j]? = some y := by simpa using f1
          rw [f1'] at g1
          cases g1
          exact ⟨by show 2 ≤ sizeLine; decide, [.int j t, y], .cons ⟨t, rfl⟩ (.cons g2 .nil), ⟨_, f2, rfl, _, rfl⟩⟩) hacc
    exact ⟨.ref _, H', J, rfl, q _ as H' N⟩
end
end UrE

namespace Ur
open PySem L2

/-! ### frames -/
/-- all that was tracked stands as it was but at a -/
def But (a : Addr) (H H' : Hp) : Prop := ∀ b o, b ≠ a → H b = some o → H' b = some o
theorem same_get {H H' : Hp} {b : Addr} {o : HO} (s : Same H H') (h : H b = some o) : H' b = some o := s b o h
theorem but_get {H H' : Hp} {a b : Addr} {o : HO} (s : But a H H') (n : b ≠ a) (h : H b = some o) : H' b = some o := s b o n h
theorem ne_new {H : Hp} {a b : Addr} {o : HO} (h' : H b = none) (h : H a = some o) : a ≠ b := ne_of_none h h'
theorem at_nat {α : Type} {xs : List α} {j : Nat} {v : α} (h : xs[j]? = some v) : atI xs (j : Int) = some v := atI_nat h
theorem dead_upd {H : Hp} {a : Addr} {o u : HO} (h : upd H a o a = some u) : upd H a o a = some u := h
theorem dead_ne {a : Addr} (h : a ≠ a) : a ≠ a := h
theorem sz {n : Nat} (h : n ≤ 1000000) : n ≤ sizeLine := Nat.le_trans h (by decide)
theorem szl {n : Nat} (h : n < 1000000) : n < sizeLine := Nat.lt_of_lt_of_le h (by decide)
theorem ne_new' {H : Hp} {a b : Addr} {o : HO} (h' : H a = none) (h : H b = some o) : a ≠ b := fun e => ne_of_none h h' e.symm
theorem get_upd {H : Hp} {a b : Addr} {o u : HO} (n : b ≠ a) (h : H b = some u) : upd H a o b = some u := (upd_ne n).trans h
theorem b01 (b : Bool) : 0 ≤ (if b = true then (1 : Int) else 0) ∧ (if b = true then (1 : Int) else 0) ≤ 1 := by cases b <;> decide
/-! ### frames, for the search -/
theorem same_snoc {H0 H : Hp} {p : Addr} {o : HO} (n : H p = none) (s : Same H0 H) : Same H0 (upd H p o) := fun b u e => by
  have e' := s b u e
  rw [upd_ne (ne_of_none e' n)]
  exact e'
theorem same_upd' {H0 H : Hp} {p : Addr} {o : HO} (n : H0 p = none) (s : Same H0 H) : Same H0 (upd H p o) := fun b u e => by
  rw [upd_ne (ne_of_none e n)]
  exact s b u e
theorem same_step {H0 H1 H2 : Hp} (s2 : Same H1 H2) (s1 : Same H0 H1) : Same H0 H2 := s1.trans s2
theorem same_pairs {H0 H1 H2 : Hp} {cs : List (List V)} {p : Addr} {ts : List Addr} (n : UrE.NewPairs H1 cs p ts H2) (s1 : Same H0 H1) : Same H0 H2 := s1.trans n.1
theorem same_but {H0 H1 H2 : Hp} {a : Addr} (b : But a H1 H2) (n : H0 a = none) (s : Same H0 H1) : Same H0 H2 := fun x o e =>
  b x o (fun k => by rw [k, n] at e; cases e) (s x o e)
theorem adv0 {H H1 : Hp} {b : Addr} {o : HO} (s : Same H H1) (h : H b = some o) : H1 b = some o ∧ (∀ p, H p = none → b ≠ p) ∧ ∀ p, H p = none → b ≠ p := ⟨s _ _ h, fun _ k => ne_new k h, fun _ k => ne_new k h⟩
theorem adv1 {H H1 : Hp} {a0 : Addr} {o0 : HO} {b : Addr} {o : HO} (s : Same (upd H a0 o0) H1) (n0 : b ≠ a0) (h : H b = some o) : H1 b = some o ∧ (∀ p, (upd H a0 o0) p = none → b ≠ p) ∧ ∀ p, H p = none → b ≠ p := ⟨s _ _ (get_upd n0 h), fun _ k => ne_new k (get_upd n0 h), fun _ k => ne_new k h⟩
theorem adv2 {H H1 : Hp} {a0 : Addr} {o0 : HO} {a1 : Addr} {o1 : HO} {b : Addr} {o : HO} (s : Same (upd (upd H a0 o0) a1 o1) H1) (n0 : b ≠ a0) (n1 : b ≠ a1) (h : H b = some o) : H1 b = some o ∧ (∀ p, (upd (upd H a0 o0) a1 o1) p = none → b ≠ p) ∧ ∀ p, H p = none → b ≠ p := ⟨s _ _ (get_upd n1 (get_upd n0 h)), fun _ k => ne_new k (get_upd n1 (get_upd n0 h)), fun _ k => ne_new k h⟩
theorem adv3 {H H1 : Hp} {a0 : Addr} {o0 : HO} {a1 : Addr} {o1 : HO} {a2 : Addr} {o2 : HO} {b : Addr} {o : HO} (s : Same (upd (upd (upd H a0 o0) a1 o1) a2 o2) H1) (n0 : b ≠ a0) (n1 : b ≠ a1) (n2 : b ≠ a2) (h : H b = some o) : H1 b = some o ∧ (∀ p, (upd (upd (upd H a0 o0) a1 o1) a2 o2) p = none → b ≠ p) ∧ ∀ p, H p = none → b ≠ p := ⟨s _ _ (get_upd n2 (get_upd n1 (get_upd n0 h))), fun _ k => ne_new k (get_upd n2 (get_upd n1 (get_upd n0 h))), fun _ k => ne_new k h⟩
theorem adv4 {H H1 : Hp} {a0 : Addr} {o0 : HO} {a1 : Addr} {o1 : HO} {a2 : Addr} {o2 : HO} {a3 : Addr} {o3 : HO} {b : Addr} {o : HO} (s : Same (upd (upd (upd (upd H a0 o0) a1 o1) a2 o2) a3 o3) H1) (n0 : b ≠ a0) (n1 : b ≠ a1) (n2 : b ≠ a2) (n3 : b ≠ a3) (h : H b = some o) : H1 b = some o ∧ (∀ p, (upd (upd (upd (upd H a0 o0) a1 o1) a2 o2) a3 o3) p = none → b ≠ p) ∧ ∀ p, H p = none → b ≠ p := ⟨s _ _ (get_upd n3 (get_upd n2 (get_upd n1 (get_upd n0 h)))), fun _ k => ne_new k (get_upd n3 (get_upd n2 (get_upd n1 (get_upd n0 h)))), fun _ k => ne_new k h⟩
theorem adv5 {H H1 : Hp} {a0 : Addr} {o0 : HO} {a1 : Addr} {o1 : HO} {a2 : Addr} {o2 : HO} {a3 : Addr} {o3 : HO} {a4 : Addr} {o4 : HO} {b : Addr} {o : HO} (s : Same (upd (upd (upd (upd (upd H a0 o0) a1 o1) a2 o2) a3 o3) a4 o4) H1) (n0 : b ≠ a0) (n1 : b ≠ a1) (n2 : b ≠ a2) (n3 : b ≠ a3) (n4 : b ≠ a4) (h : H b = some o) : H1 b = some o ∧ (∀ p, (upd (upd (upd (upd (upd H a0 o0) a1 o1) a2 o2) a3 o3) a4 o4) p = none → b ≠ p) ∧ ∀ p, H p = none → b ≠ p := ⟨s _ _ (get_upd n4 (get_upd n3 (get_upd n2 (get_upd n1 (get_upd n0 h))))), fun _ k => ne_new k (get_upd n4 (get_upd n3 (get_upd n2 (get_upd n1 (get_upd n0 h))))), fun _ k => ne_new k h⟩
theorem adv6 {H H1 : Hp} {a0 : Addr} {o0 : HO} {a1 : Addr} {o1 : HO} {a2 : Addr} {o2 : HO} {a3 : Addr} {o3 : HO} {a4 : Addr} {o4 : HO} {a5 : Addr} {o5 : HO} {b : Addr} {o : HO} (s : Same (upd (upd (upd (upd (upd (upd H a0 o0) a1 o1) a2 o2) a3 o3) a4 o4) a5 o5) H1) (n0 : b ≠ a0) (n1 : b ≠ a1) (n2 : b ≠ a2) (n3 : b ≠ a3) (n4 : b ≠ a4) (n5 : b ≠ a5) (h : H b = some o) : H1 b = some o ∧ (∀ p, (upd (upd (upd (upd (upd (upd H a0 o0) a1 o1) a2 o2) a3 o3) a4 o4) a5 o5) p = none → b ≠ p) ∧ ∀ p, H p = none → b ≠ p := ⟨s _ _ (get_upd n5 (get_upd n4 (get_upd n3 (get_upd n2 (get_upd n1 (get_upd n0 h)))))), fun _ k => ne_new k (get_upd n5 (get_upd n4 (get_upd n3 (get_upd n2 (get_upd n1 (get_upd n0 h)))))), fun _ k => ne_new k h⟩
theorem adv7 {H H1 : Hp} {a0 : Addr} {o0 : HO} {a1 : Addr} {o1 : HO} {a2 : Addr} {o2 : HO} {a3 : Addr} {o3 : HO} {a4 : Addr} {o4 : HO} {a5 : Addr} {o5 : HO} {a6 : Addr} {o6 : HO} {b : Addr} {o : HO} (s : Same (upd (upd (upd (upd (upd (upd (upd H a0 o0) a1 o1) a2 o2) a3 o3) a4 o4) a5 o5) a6 o6) H1) (n0 : b ≠ a0) (n1 : b ≠ a1) (n2 : b ≠ a2) (n3 : b ≠ a3) (n4 : b ≠ a4) (n5 : b ≠ a5) (n6 : b ≠ a6) (h : H b = some o) : H1 b = some o ∧ (∀ p, (upd (upd (upd (upd (upd (upd (upd H a0 o0) a1 o1) a2 o2) a3 o3) a4 o4) a5 o5) a6 o6) p = none → b ≠ p) ∧ ∀ p, H p = none → b ≠ p := ⟨s _ _ (get_upd n6 (get_upd n5 (get_upd n4 (get_upd n3 (get_upd n2 (get_upd n1 (get_upd n0 h))))))), fun _ k => ne_new k (get_upd n6 (get_upd n5 (get_upd n4 (get_upd n3 (get_upd n2 (get_upd n1 (get_upd n0 h))))))), fun _ k => ne_new k h⟩
theorem same_free {H0 H : Hp} {p : Addr} (n : H p = none) (s : Same H0 H) : H0 p = none := s.free n
theorem but_refl {a : Addr} {H : Hp} : But a H H := fun _ _ _ e => e
theorem but_at {a : Addr} {H0 H : Hp} {o : HO} (s : But a H0 H) : But a H0 (upd H a o) := fun b u n e => by
  rw [upd_ne n]
  exact s b u n e
theorem but_snoc {a : Addr} {H0 H : Hp} {p : Addr} {o : HO} (n : H p = none) (s : But a H0 H) : But a H0 (upd H p o) := fun b u nb e => by
  have e' := s b u nb e
  rw [upd_ne (ne_of_none e' n)]
  exact e'
theorem but_upd {a : Addr} {H0 H : Hp} {p : Addr} {o : HO} (n : H0 p = none) (s : But a H0 H) : But a H0 (upd H p o) := fun b u nb e => by
  rw [upd_ne (ne_of_none e n)]
  exact s b u nb e
theorem but_step {a : Addr} {H0 H1 H2 : Hp} (s2 : But a H1 H2) (s1 : But a H0 H1) : But a H0 H2 := fun b u n e => s2 b u n (s1 b u n e)
theorem but_step' {a : Addr} {H0 H1 H2 : Hp} (s2 : Same H1 H2) (s1 : But a H0 H1) : But a H0 H2 := fun b u n e => s2 b u (s1 b u n e)
theorem but_free {a : Addr} {H0 H1 : Hp} {p : Addr} {o : HO} (h : H1 p = none) (x : But a H0 H1) (ha : H1 a = some o) : H0 p = none := by
  by_cases e : p = a
  · rw [e, ha] at h; cases h
  · cases q : H0 p with
    | none => rfl
    | some u => rw [x p u e q] at h; cases h
/-- a word that the search does not open -/
structure Iv (P : Prop) : Prop where
  out : P
/-! ### a loop's invariant is asked here -/
theorem isW1 {P : (Nat → Nat → Hp → Prop) → Prop} (h : ∃ W, P W) : ∃ W, P W := h
theorem isW2 {P : (Nat → Nat → L2.St → Hp → Prop) → Prop} (h : ∃ W, P W) : ∃ W, P W := h
theorem isW3 {P : (Nat → L2.St → Hp → Prop) → Prop} (h : ∃ W, P W) : ∃ W, P W := h
theorem isW4 {P : (L2.St → Hp → Prop) → Prop} (h : ∃ W, P W) : ∃ W, P W := h
/-! ### branches -/
theorem br {c : Prop} [Decidable c] {A B : Prop} (h1 : c → A) (h2 : ¬ c → B) : if decide c = true then A else B := by
  by_cases h : c
  · rw [if_pos (decide_eq_true h)]
    exact h1 h
  · rw [if_neg (by rw [decide_eq_false h]; exact Bool.false_ne_true)]
    exact h2 h
theorem brn {c : Prop} [Decidable c] {A B : Prop} (h1 : ¬ c → A) (h2 : c → B) : if (!decide c) = true then A else B := by
  by_cases h : c
  · rw [if_neg (by rw [decide_eq_true h]; decide)]
    exact h2 h
  · rw [if_pos (by rw [decide_eq_false h]; decide)]
    exact h1 h
theorem bri {i j : Int} {A B : Prop} (h1 : i = j → A) (h2 : ¬ i = j → B) : if decide (V.int i = V.int j) = true then A else B :=
  br (fun h => h1 (V.int.inj h)) (fun h => h2 fun e => h (by rw [e]))
theorem brni {i j : Int} {A B : Prop} (h1 : ¬ i = j → A) (h2 : i = j → B) : if (!decide (V.int i = V.int j)) = true then A else B :=
  brn (fun h => h1 fun e => h (by rw [e])) (fun h => h2 (V.int.inj h))
theorem brb {b : Bool} {A B : Prop} (h1 : b = true → A) (h2 : b = false → B) : if b = true then A else B := by
  cases b with
  | true => exact (if_pos rfl).mpr (h1 rfl)
  | false => exact (if_neg Bool.false_ne_true).mpr (h2 rfl)
/-! ### branches that are known -/
theorem brT {c : Prop} [Decidable c] {A B : Prop} (h : c) (a : A) : if decide c = true then A else B := by rw [if_pos (decide_eq_true h)]; exact a
theorem brF {c : Prop} [Decidable c] {A B : Prop} (h : ¬ c) (b : B) : if decide c = true then A else B := by rw [if_neg (by rw [decide_eq_false h]; exact Bool.false_ne_true)]; exact b
theorem brnT {c : Prop} [Decidable c] {A B : Prop} (h : c) (b : B) : if (!decide c) = true then A else B := by rw [if_neg (by rw [decide_eq_true h]; decide)]; exact b
theorem brnF {c : Prop} [Decidable c] {A B : Prop} (h : ¬ c) (a : A) : if (!decide c) = true then A else B := by rw [if_pos (by rw [decide_eq_false h]; decide)]; exact a
theorem noN {A B : Prop} {i : Int} (b : B) : if decide (V.int i = V.non) = true then A else B := by rw [if_neg (by rw [decide_eq_false (by intro e; cases e)]; exact Bool.false_ne_true)]; exact b
theorem noNn {A B : Prop} {i : Int} (a : A) : if (!decide (V.int i = V.non)) = true then A else B := by rw [if_pos (by rw [decide_eq_false (by intro e; cases e)]; decide)]; exact a
end Ur

namespace Ur
open PySem L2
/-! ### lists of ints: ==, slices, loops -/
/-- the list of ints as values -/
abbrev iv (ns : List Int) : List V := ns.map V.int
theorem dpAll_ints {K : PySem.W.Frag} {H : Hp} : ∀ ns : List Int, DpAll K H (ns.map V.int) (ns.map PyData.int)
  | [] => .nil
  | n :: ns => .cons (.int n) (dpAll_ints ns)
theorem dp_ints {K : PySem.W.Frag} {H : Hp} {a : Addr} {ns : List Int} (h : SqL K H a (ns.map V.int)) : Dp K H (.ref a) (.list (ns.map PyData.int)) := .lst h (dpAll_ints ns)
theorem canLayAll_ints : ∀ ns : List Int, PyData.canLayAll0 (ns.map PyData.int) = true
  | [] => rfl
  | n :: ns => by
    show (PyData.canLay0 (.int n) && PyData.canLayAll0 (ns.map PyData.int)) = true
    rw [canLayAll_ints ns]
    rfl
theorem depthAll_ints : ∀ ns : List Int, PyData.depthAll (ns.map PyData.int) ≤ 1
  | [] => by decide
  | n :: ns => by
    have h := depthAll_ints ns
    rw [List.map_cons, PyData.depthAll]
    exact Nat.max_le.mpr ⟨by simp [PyData.depth], h⟩
theorem depth_ints (ns : List Int) : PyData.depth (.list (ns.map PyData.int)) ≤ 2 := by
  have h := depthAll_ints ns
  rw [PyData.depth]
  omega
theorem shaped_of {d : PyData} (c : PyData.canLay0 d = true) (h : PyData.depth d ≤ 64) : SeqAt.shaped d = true := by
  unfold SeqAt.shaped
  rw [c, decide_eq_true h]
  rfl
theorem shaped_ints (ns : List Int) : SeqAt.shaped (.list (ns.map PyData.int)) = true := shaped_of (canLayAll_ints ns) (Nat.le_trans (depth_ints ns) (by decide))
theorem eqvAll_ints : ∀ ns ms : List Int, PyData.eqvAll (ns.map PyData.int) (ms.map PyData.int) = decide (ns = ms)
  | [], [] => rfl
  | [], _ :: _ => rfl
  | _ :: _, [] => rfl
  | n :: ns, m :: ms => by
    show (PyData.eqv (.int n) (.int m) && PyData.eqvAll (ns.map PyData.int) (ms.map PyData.int)) = decide (n :: ns = m :: ms)
    rw [eqvAll_ints ns ms]
    show ((n == m) && decide (ns = ms)) = decide (n :: ns = m :: ms)
    by_cases h : n = m <;> by_cases h2 : ns = ms <;> simp [h, h2]
theorem eqv_ints (ns ms : List Int) : PyData.eqv (.list (ns.map PyData.int)) (.list (ms.map PyData.int)) = decide (ns = ms) := eqvAll_ints ns ms
theorem rEq_ints {K : PySem.W.Frag} {H : Hp} {a b : Addr} {ns ms : List Int} {Q : VK} (h1 : SqL K H a (ns.map V.int)) (h2 : SqL K H b (ms.map V.int)) (q : Q (.bl (decide (ns = ms))) H) : rEqD K (.ref a) (.ref b) H Q :=
  ⟨_, _, dp_ints h1, dp_ints h2, shaped_ints ns, shaped_ints ms, by rw [eqv_ints]; exact q⟩
theorem rNe_ints {K : PySem.W.Frag} {H : Hp} {a b : Addr} {ns ms : List Int} {Q : VK} (h1 : SqL K H a (ns.map V.int)) (h2 : SqL K H b (ms.map V.int)) (q : Q (.bl (!decide (ns = ms))) H) : rNeD K (.ref a) (.ref b) H Q :=
  ⟨_, _, dp_ints h1, dp_ints h2, shaped_ints ns, shaped_ints ms, by rw [eqv_ints]; exact q⟩
theorem SqL.nil_of {K : PySem.W.Frag} {H : Hp} {a : Addr} (h : SqL K H a []) : SqL K H a (([] : List Int).map V.int) := h

theorem iv_get {ns : List Int} {i : Nat} {x : V} (h : (ns.map V.int)[i]? = some x) : ∃ n, ns[i]? = some n ∧ x = .int n := by
  rw [List.getElem?_map] at h
  cases e : ns[i]? with
  | none => rw [e] at h; cases h
  | some n => rw [e] at h; exact ⟨n, rfl, (Option.some.inj h).symm⟩
theorem iv_get' {ns : List Int} {i : Nat} {n : Int} (h : ns[i]? = some n) : (ns.map V.int)[i]? = some (.int n) := by rw [List.getElem?_map, h]; rfl
theorem at_int {ns : List Int} {j : Nat} {n : Int} (h : ns[j]? = some n) : atI (ns.map V.int) (j : Int) = some (.int n) := atI_nat (iv_get' h)
/-- an item at an int place -/
theorem at_int' {ns : List Int} {i : Int} (h0 : 0 ≤ i) (h1 : i < ns.length) : atI (ns.map V.int) i = some (.int (ns.getD i.toNat 0)) := by
  have hj : i.toNat < ns.length := by omega
  have e : i = ((i.toNat : Nat) : Int) := by omega
  have e2 : ns[i.toNat]? = some (ns.getD i.toNat 0) := by rw [List.getD_eq_getElem?_getD, List.getElem?_eq_getElem hj]; rfl
  rw [e]
  exact at_int (by rw [Int.toNat_natCast]; exact e2)
theorem at2 {x y i : Int} (h0 : 0 ≤ i) (h1 : i < 2) : atI [V.int x, V.int y] i = some (.int ([x, y].getD i.toNat 0)) := at_int' (ns := [x, y]) h0 h1
theorem at3 {x y z i : Int} (h0 : 0 ≤ i) (h1 : i < 3) : atI [V.int x, V.int y, V.int z] i = some (.int ([x, y, z].getD i.toNat 0)) := at_int' (ns := [x, y, z]) h0 h1
theorem at4 {x y z w i : Int} (h0 : 0 ≤ i) (h1 : i < 4) : atI [V.int x, V.int y, V.int z, V.int w] i = some (.int ([x, y, z, w].getD i.toNat 0)) := at_int' (ns := [x, y, z, w]) h0 h1
theorem at6 {x y z w u v i : Int} (h0 : 0 ≤ i) (h1 : i < 6) : atI [V.int x, V.int y, V.int z, V.int w, V.int u, V.int v] i = some (.int ([x, y, z, w, u, v].getD i.toNat 0)) := at_int' (ns := [x, y, z, w, u, v]) h0 h1
theorem getD4 {x y z w i lo hi : Int} (h0 : 0 ≤ i) (h1 : i < 4) (hx : lo ≤ x ∧ x ≤ hi) (hy : lo ≤ y ∧ y ≤ hi) (hz : lo ≤ z ∧ z ≤ hi) (hw : lo ≤ w ∧ w ≤ hi) : lo ≤ [x, y, z, w].getD i.toNat 0 ∧ [x, y, z, w].getD i.toNat 0 ≤ hi := by
  have h : i = 0 ∨ i = 1 ∨ i = 2 ∨ i = 3 := by omega
  rcases h with rfl | rfl | rfl | rfl
  · exact hx
  · exact hy
  · exact hz
  · exact hw
theorem getD2 {x y i lo hi : Int} (h0 : 0 ≤ i) (h1 : i < 2) (hx : lo ≤ x ∧ x ≤ hi) (hy : lo ≤ y ∧ y ≤ hi) : lo ≤ [x, y].getD i.toNat 0 ∧ [x, y].getD i.toNat 0 ≤ hi := by
  have h : i = 0 ∨ i = 1 := by omega
  rcases h with rfl | rfl
  · exact hx
  · exact hy
theorem getD3 {x y z i lo hi : Int} (h0 : 0 ≤ i) (h1 : i < 3) (hx : lo ≤ x ∧ x ≤ hi) (hy : lo ≤ y ∧ y ≤ hi) (hz : lo ≤ z ∧ z ≤ hi) : lo ≤ [x, y, z].getD i.toNat 0 ∧ [x, y, z].getD i.toNat 0 ≤ hi := by
  have h : i = 0 ∨ i = 1 ∨ i = 2 := by omega
  rcases h with e | e | e <;> subst e
  · exact hx
  · exact hy
  · exact hz
theorem getD6 {x y z w u v i lo hi : Int} (h0 : 0 ≤ i) (h1 : i < 6) (hx : lo ≤ x ∧ x ≤ hi) (hy : lo ≤ y ∧ y ≤ hi) (hz : lo ≤ z ∧ z ≤ hi) (hw : lo ≤ w ∧ w ≤ hi) (hu : lo ≤ u ∧ u ≤ hi) (hv : lo ≤ v ∧ v ≤ hi) : lo ≤ [x, y, z, w, u, v].getD i.toNat 0 ∧ [x, y, z, w, u, v].getD i.toNat 0 ≤ hi := by
  have h : i = 0 ∨ i = 1 ∨ i = 2 ∨ i = 3 ∨ i = 4 ∨ i = 5 := by omega
  rcases h with e | e | e | e | e | e <;> subst e
  · exact hx
  · exact hy
  · exact hz
  · exact hw
  · exact hu
  · exact hv
theorem ixN_of {n : Nat} {i : Int} (h0 : 0 ≤ i) (h1 : i < n) : ixN n i = some i.toNat := by
  unfold ixN
  rw [if_pos h0, if_pos h1]

theorem ixN_iv {ns : List Int} {i : Int} (h0 : 0 ≤ i) (h1 : i < ns.length) : ixN (ns.map V.int).length i = some i.toNat := by
  rw [List.length_map]
  unfold ixN
  rw [if_pos h0, if_pos h1]
theorem upd_snoc {H : Hp} {a : Addr} {ns : List Int} {v : Int} : upd H a (.lst (ns.map V.int ++ [V.int v])) a = some (.lst ((ns ++ [v]).map V.int)) := by
  rw [upd_same, List.map_append]
  rfl
theorem upd_set {H : Hp} {a : Addr} {ns : List Int} {j : Nat} {v : Int} : upd H a (.lst ((ns.map V.int).set j (V.int v))) a = some (.lst ((ns.set j v).map V.int)) := by
  rw [upd_same, List.map_set]
/-- .. against a list without items -/
theorem rEq_intsN {K : PySem.W.Frag} {H : Hp} {a b : Addr} {ns : List Int} {Q : VK} (h1 : SqL K H a (ns.map V.int)) (h2 : SqL K H b []) (q : Q (.bl (decide (ns = []))) H) : rEqD K (.ref a) (.ref b) H Q :=
  rEq_ints (ms := []) h1 h2 q
theorem rNe_intsN {K : PySem.W.Frag} {H : Hp} {a b : Addr} {ns : List Int} {Q : VK} (h1 : SqL K H a (ns.map V.int)) (h2 : SqL K H b []) (q : Q (.bl (!decide (ns = []))) H) : rNeD K (.ref a) (.ref b) H Q :=
  rNe_ints (ms := []) h1 h2 q
/-! ### built-ins of one argument, of two -/
def tB1 (r : List V → Hp → VK → Prop) (te : TE) : TE := fun σ H Q => te σ H fun x H1 => r [x] H1 Q
def tB2 (r : List V → Hp → VK → Prop) (ta tb : TE) : TE := fun σ H Q => ta σ H fun x H1 => tb σ H1 fun y H2 => r [x, y] H2 Q
section
variable {X : Cx} {x : Str} {id T : String} {e f : Expr} {te tf : TE} {r : List V → Hp → VK → Prop} {p pos : Pos}
theorem pe_b1 (hc : CallR X (.builtin id) r) (hg : Gl X x) (hm : X.mg x = none) (hv : bootBuiltins x = some (.builtin id)) (ha : PE X e te) (hn : x ≠ "__name__" := by decide) (hdb : (x == ("__debug__" : Str)) = false := by decide)
    (he : starEach [e] X.env = (false, eval e X.env) :: starEach [] X.env := by rfl) : PE X (.Call (.Name x p) [e] [] pos) (tB1 r te) := pe_callB hc hg hm hv (pa_cons ha pa_nil he) hn hdb he rfl
theorem pe_b2 (hc : CallR X (.builtin id) r) (hg : Gl X x) (hm : X.mg x = none) (hv : bootBuiltins x = some (.builtin id)) (ha : PE X e te) (hb : PE X f tf) (hn : x ≠ "__name__" := by decide) (hdb : (x == ("__debug__" : Str)) = false := by decide)
    (he : starEach [e, f] X.env = (false, eval e X.env) :: starEach [f] X.env := by rfl) (hf : starEach [f] X.env = (false, eval f X.env) :: starEach [] X.env := by rfl) (hpl : (backTo pos (starEach [f] X.env)).any (·.1) = false := by rfl) :
    PE X (.Call (.Name x p) [e, f] [] pos) (tB2 r te tf) := pe_callB hc hg hm hv (pa_cons ha (pa_cons hb pa_nil hf) he) hn hdb he hpl
theorem pe_t1 (hc : CallR X (.type T) r) (hg : Gl X x) (hm : X.mg x = none) (hv : bootBuiltins x = some (.type T)) (ha : PE X e te) (hn : x ≠ "__name__" := by decide) (hdb : (x == ("__debug__" : Str)) = false := by decide)
    (he : starEach [e] X.env = (false, eval e X.env) :: starEach [] X.env := by rfl) : PE X (.Call (.Name x p) [e] [] pos) (tB1 r te) := pe_callTy hc hg hm hv (pa_cons ha pa_nil he) hn hdb he rfl
end
theorem tyL {K : PySem.W.Frag} {H : Hp} {l : Addr} {xs : List V} (h : SqL K H l xs) : tyV K "list" (.ref l) H := Or.inl ⟨rfl, _, h⟩
/-! ### len -/
def rLenI (K : PySem.W.Frag) : List V → Hp → VK → Prop := fun xs H Q => ∃ p ys, xs = [.ref p] ∧ (SqL K H p ys ∨ SqT K H p ys) ∧ Q (.int ys.length) H
theorem call_lenI {X : Cx} : CallR X (.builtin "len") (rLenI X.K) := call_len_seq
theorem len_ints {K : PySem.W.Frag} {H : Hp} {p : Addr} {ns : List Int} {Q : VK} (h : SqL K H p (ns.map V.int)) (q : Q (.int ns.length) H) : rLenI K [.ref p] H Q :=
  ⟨p, _, rfl, Or.inl h, by rw [List.length_map]; exact q⟩
theorem upd_app {H : Hp} {a : Addr} {ns ms : List Int} : upd H a (.lst (ns.map V.int ++ ms.map V.int)) a = some (.lst ((ns ++ ms).map V.int)) := by
  rw [upd_same, List.map_append]
theorem upd_1cat {H : Hp} {a : Addr} {x : Int} {ms : List Int} : upd H a (.lst ([V.int x] ++ ms.map V.int)) a = some (.lst ((x :: ms).map V.int)) := upd_same
theorem rep_iv (k : Nat) (v : Int) : (List.replicate k [V.int v]).flatten = (List.replicate k v).map V.int := by
  induction k with
  | zero => rfl
  | succ k ih => rw [List.replicate_succ, List.flatten_cons, ih, List.replicate_succ, List.map_cons]; rfl
theorem upd_rep {H : Hp} {a : Addr} {ns : List Int} {k : Nat} {v : Int} : upd H a (.lst (ns.map V.int ++ (List.replicate k [V.int v]).flatten)) a = some (.lst ((ns ++ List.replicate k v).map V.int)) := by
  rw [upd_same, rep_iv, List.map_append]
theorem upd_rep0 {H : Hp} {a : Addr} {k : Nat} {v : Int} : upd H a (.lst (List.replicate k [V.int v]).flatten) a = some (.lst ((List.replicate k v).map V.int)) := by
  rw [upd_same, rep_iv]
/-! ### slices -/
theorem sIx_pos (n d : Nat) {m : Int} (h : 0 ≤ m) : HT.sIx n d (some m) = min m.toNat n := by
  show (if m < 0 then (m + (n : Int)).toNat else min m.toNat n) = min m.toNat n
  rw [if_neg (by omega)]
theorem cut_all (xs : List V) : cutV xs none none = xs := by
  unfold cutV
  rw [HT.sIx_none, HT.sIx_none]
  simp
theorem cut_to (xs : List V) {m : Int} (h : 0 ≤ m) : cutV xs none (some m) = xs.take m.toNat := by
  unfold cutV
  rw [HT.sIx_none, sIx_pos _ _ h, List.drop_zero, Nat.sub_zero]
  by_cases hm : m.toNat ≤ xs.length
  · rw [Nat.min_eq_left hm]
  · rw [Nat.min_eq_right (by omega), List.take_of_length_le (Nat.le_refl _), List.take_of_length_le (by omega)]
theorem cut_from (xs : List V) {m : Int} (h : 0 ≤ m) : cutV xs (some m) none = xs.drop m.toNat := by
  unfold cutV
  rw [HT.sIx_none, sIx_pos _ _ h]
  by_cases hm : m.toNat ≤ xs.length
  · rw [Nat.min_eq_left hm, List.take_of_length_le (by rw [List.length_drop]; omega)]
  · rw [Nat.min_eq_right (by omega), List.drop_of_length_le (Nat.le_refl _), List.drop_of_length_le (by omega)]
    simp
theorem cut_mid (xs : List V) {a b : Int} (h : 0 ≤ a) (h2 : 0 ≤ b) : cutV xs (some a) (some b) = (xs.drop a.toNat).take (b.toNat - a.toNat) := by
  unfold cutV
  rw [sIx_pos _ _ h, sIx_pos _ _ h2]
  by_cases ha : a.toNat ≤ xs.length
  · rw [Nat.min_eq_left ha]
    by_cases hb : b.toNat ≤ xs.length
    · rw [Nat.min_eq_left hb]
    · rw [Nat.min_eq_right (by omega), List.take_of_length_le (by rw [List.length_drop]; omega), List.take_of_length_le (by rw [List.length_drop]; omega)]
  · rw [Nat.min_eq_right (a := a.toNat) (by omega), List.drop_of_length_le (Nat.le_refl _), List.drop_of_length_le (by omega)]
    simp
theorem cutI_all (ns : List Int) : cutV (ns.map V.int) none none = ns.map V.int := cut_all _
theorem cutI_to (ns : List Int) {m : Int} (h : 0 ≤ m) : cutV (ns.map V.int) none (some m) = (ns.take m.toNat).map V.int := by rw [cut_to _ h, List.map_take]
theorem cutI_from (ns : List Int) {m : Int} (h : 0 ≤ m) : cutV (ns.map V.int) (some m) none = (ns.drop m.toNat).map V.int := by rw [cut_from _ h, List.map_drop]
theorem cutI_mid (ns : List Int) {a b : Int} (h : 0 ≤ a) (h2 : 0 ≤ b) : cutV (ns.map V.int) (some a) (some b) = ((ns.drop a.toNat).take (b.toNat - a.toNat)).map V.int := by
  rw [cut_mid _ h h2, List.map_take, List.map_drop]

/-! ### pairs made by list(enumerate(..)) -/
theorem NewPairs_of {H H1 H' : Hp} {cs : List (List V)} {p : Addr} {ts : List Addr} (s : Same H H1) (n : UrE.NewPairs H1 cs p ts H') : UrE.NewPairs H cs p ts H' := by
  obtain ⟨a, b, c, d, e⟩ := n
  exact ⟨s.trans a, s.free b, fun t ht => s.free (c t ht), d, e⟩
theorem same_new {H : Hp} {p : Addr} {o : HO} (h : H p = none) : Same H (upd H p o) := fun b u e => by
  rw [upd_ne (ne_of_none e h)]
  exact e
theorem sql_new {K : PySem.W.Frag} {H : Hp} {p b : Addr} {o : HO} {xs : List V} (h : H p = none) (q : SqL K H b xs) : SqL K (upd H p o) b xs := (same_new h).seq q
theorem sql_upd {K : PySem.W.Frag} {H : Hp} {p b : Addr} {o : HO} {xs : List V} (n : b ≠ p) (q : SqL K H b xs) : SqL K (upd H p o) b xs := by
  rcases q with (h | ⟨u, h⟩) | h
  · exact .inl (.inl ((upd_ne n).trans h))
  · exact .inl (.inr ⟨u, (upd_ne n).trans h⟩)
  · exact .inr h
/-- a change at what H0 does not know -/
theorem same_upd {H0 H : Hp} {p : Addr} {o : HO} (s : Same H0 H) (h : H0 p = none) : Same H0 (upd H p o) := fun b u e => by
  rw [upd_ne (ne_of_none e h)]
  exact s b u e
theorem upd_none {H : Hp} {a p : Addr} {o : HO} (h : upd H a o p = none) : H p = none := by
  by_cases e : p = a
  · rw [e, upd_same] at h; cases h
  · rw [upd_ne e] at h; exact h
theorem upd_none_ne {H : Hp} {a p : Addr} {o : HO} (h : upd H a o p = none) : p ≠ a := fun e => by rw [e, upd_same] at h; cases h
theorem upd_cutto {H : Hp} {a : Addr} {ns : List Int} {m : Int} (h : 0 ≤ m) : upd H a (.lst (cutV (ns.map V.int) none (some m))) a = some (.lst ((ns.take m.toNat).map V.int)) := by rw [cutI_to ns h, upd_same]
theorem upd_cutfrom {H : Hp} {a : Addr} {ns : List Int} {m : Int} (h : 0 ≤ m) : upd H a (.lst (cutV (ns.map V.int) (some m) none)) a = some (.lst ((ns.drop m.toNat).map V.int)) := by rw [cutI_from ns h, upd_same]
theorem upd_cutmid {H : Hp} {a : Addr} {ns : List Int} {m k : Int} (h : 0 ≤ m) (h2 : 0 ≤ k) : upd H a (.lst (cutV (ns.map V.int) (some m) (some k))) a = some (.lst (((ns.drop m.toNat).take (k.toNat - m.toNat)).map V.int)) := by rw [cutI_mid ns h h2, upd_same]
theorem upd_cutall {H : Hp} {a : Addr} {ns : List Int} : upd H a (.lst (cutV (ns.map V.int) none none)) a = some (.lst (ns.map V.int)) := by rw [cutI_all ns, upd_same]
end Ur

namespace Ur
open PySem L2 PyProof.Rows PySem.Spec
/-! ### the rules of a block, by the fragment alone -/
def rMax2 : List V → Hp → VK → Prop := fun xs H Q => ∃ i j, xs = [.int i, .int j] ∧ Q (.int (if j > i then j else i)) H
def rMin2 : List V → Hp → VK → Prop := fun xs H Q => ∃ i j, xs = [.int i, .int j] ∧ Q (.int (if j < i then j else i)) H
def rListOf (K : PySem.W.Frag) : List V → Hp → VK → Prop := fun xs H Q => ∃ p ys, xs = [.ref p] ∧ (SqL K H p ys ∨ SqT K H p ys) ∧ ∀ l, H l = none → Q (.ref l) (upd H l (.lst ys))
def rTupOf (K : PySem.W.Frag) : List V → Hp → VK → Prop := fun xs H Q => ∃ p ys, xs = [.ref p] ∧ ((SqL K H p ys ∧ ∀ l, H l = none → Q (.ref l) (upd H l (.tup ys))) ∨ (SqT K H p ys ∧ Q (.ref p) H))
theorem ix_listK {X : Cx} {K : PySem.W.Frag} (hk : X.K = K) : IxR X (rIxL K) := by subst hk; exact L2.ix_list
theorem ix_tupK {X : Cx} {K : PySem.W.Frag} (hk : X.K = K) : IxR X (rIxT K) := by subst hk; exact L2.ix_tup
theorem sl_listK {X : Cx} {K : PySem.W.Frag} (hk : X.K = K) : SlR X (rSlL K) := by subst hk; exact L2.sl_list
theorem sl_tupK {X : Cx} {K : PySem.W.Frag} (hk : X.K = K) : SlR X (rSlT K) := by subst hk; exact L2.sl_tup
theorem op_in_seqK {X : Cx} {K : PySem.W.Frag} (hk : X.K = K) : OpR X (compareOp .In) (rIn K false) := by subst hk; exact L2.op_in_seq
theorem op_notIn_seqK {X : Cx} {K : PySem.W.Frag} (hk : X.K = K) : OpR X (compareOp .NotIn) (rIn K true) := by subst hk; exact L2.op_notIn_seq
theorem call_lenIK {X : Cx} {K : PySem.W.Frag} (hk : X.K = K) : CallR X (.builtin "len") (rLenI K) := by subst hk; exact Ur.call_lenI
theorem call_isiK {X : Cx} {K : PySem.W.Frag} (hk : X.K = K) : CallR X (.builtin "isinstance") (rIsi K) := by subst hk; exact L2.call_isi
theorem cr_maxK {X : Cx} {K : PySem.W.Frag} (hk : X.K = K) (hc : X.calm = true) : CallR X (.builtin "max") (rMax K) := by subst hk; exact L2.cr_max hc
theorem cr_minK {X : Cx} {K : PySem.W.Frag} (hk : X.K = K) (hc : X.calm = true) : CallR X (.builtin "min") (rMin K) := by subst hk; exact L2.cr_min hc
theorem cr_sumK {X : Cx} {K : PySem.W.Frag} (hk : X.K = K) (hc : X.calm = true) : CallR X (.builtin "sum") (rSum K) := by subst hk; exact L2.cr_sum hc
theorem cr_anyK {X : Cx} {K : PySem.W.Frag} (hk : X.K = K) (hc : X.calm = true) : CallR X (.builtin "any") (rAny K) := by subst hk; exact L2.cr_any hc
theorem cr_allK {X : Cx} {K : PySem.W.Frag} (hk : X.K = K) (hc : X.calm = true) : CallR X (.builtin "all") (rAll K) := by subst hk; exact L2.cr_all hc
theorem op_eqDK {X : Cx} {K : PySem.W.Frag} (hk : X.K = K) (hu : X.A.units + 64 < cLine) : OpR X (compareOp .Eq) (rEqD K) := by subst hk; exact L2.op_eqD hu
theorem op_neDK {X : Cx} {K : PySem.W.Frag} (hk : X.K = K) (hu : X.A.units + 64 < cLine) : OpR X (compareOp .NotEq) (rNeD K) := by subst hk; exact L2.op_neD hu
theorem cr_sortedIK {X : Cx} {K : PySem.W.Frag} (hk : X.K = K) : CallR X (.builtin "sorted") (rSortedI K) := by subst hk; exact L2.cr_sortedI
theorem mt_indexK {X : Cx} {K : PySem.W.Frag} (hk : X.K = K) : MtR X "list.index" (rIndex K) := by subst hk; exact L2.mt_index
theorem call_max2K {X : Cx}  (hc : X.calm = true) : CallR X (.builtin "max") rMax2 := by exact L2.call_max2 hc
theorem call_min2K {X : Cx}  (hc : X.calm = true) : CallR X (.builtin "min") rMin2 := by exact L2.call_min2 hc
theorem call_list_ofK {X : Cx} {K : PySem.W.Frag} (hk : X.K = K) : CallR X (.type "list") (rListOf K) := by subst hk; exact L2.call_list_of
theorem call_tuple_ofK {X : Cx} {K : PySem.W.Frag} (hk : X.K = K) : CallR X (.type "tuple") (rTupOf K) := by subst hk; exact L2.call_tuple_of
theorem pe_fldK {X : Cx} {K : PySem.W.Frag} {e : Expr} {f : Str} {pos : Pos} {ta : TE} (hk : X.K = K) (he : PE X e ta) (hb : attributeBase e f X.env (eval e X.env) = eval e X.env) : PE X (.Attribute e f pos) (tFld K ta f) := by subst hk; exact L2.pe_fld he hb
theorem tNilI {σ : L2.St} {H : Hp} {Q : List V → Hp → Prop} (h : Q [] H) : tNil σ H Q := h
theorem tCi {v : V} {σ : L2.St} {H : Hp} {Q : VK} (h : Q v H) : tC v σ H Q := h
/-! bounds of lengths -/
theorem szT {m n : Nat} (h : m ≤ n) (k : n ≤ 1000000) : m ≤ sizeLine := sz (Nat.le_trans h k)
theorem szlT {m n : Nat} (h : m ≤ n) (k : n < 1000000) : m < sizeLine := szl (Nat.lt_of_le_of_lt h k)
theorem lb_map {α β : Type} {f : α → β} {l : List α} {n : Nat} (h : l.length ≤ n) : (l.map f).length ≤ n := by rw [List.length_map]; exact h
theorem lb_filter {α : Type} {f : α → Bool} {l : List α} {n : Nat} (h : l.length ≤ n) : (l.filter f).length ≤ n := Nat.le_trans (List.length_filter_le f l) h
theorem lb_app {α : Type} {l r : List α} {m n : Nat} (h : l.length ≤ m) (k : r.length ≤ n) : (l ++ r).length ≤ m + n := by rw [List.length_append]; exact Nat.add_le_add h k
theorem lb_cons {α : Type} {x : α} {l : List α} {n : Nat} (h : l.length ≤ n) : (x :: l).length ≤ n + 1 := Nat.succ_le_succ h
theorem lb_nil {α : Type} : ([] : List α).length ≤ 0 := Nat.le_refl 0
theorem lb_range {n : Nat} : (List.range n).length ≤ n := by rw [List.length_range]; exact Nat.le_refl n
theorem pos_app {α : Type} {x : α} {l : List α} : 0 < (l ++ [x]).length := by simp
theorem neg_same {α : Type} {x : α} [Decidable (x = x)] {A B : Prop} (h : B) : if (!decide (x = x)) = true then A else B := by
  rw [decide_eq_true rfl]
  exact h
theorem pos_same {α : Type} {x : α} [Decidable (x = x)] {A B : Prop} (h : A) : if decide (x = x) = true then A else B := by
  rw [decide_eq_true rfl]
  exact h
theorem isWN {α β : Type} {P : (Nat → α → β) → Prop} (h : ∃ W, P W) : ∃ W, P W := h
theorem sqlK {K K' : PySem.W.Frag} {H : Hp} {a : Addr} {xs : List V} (h : SqL K H a xs) (e : K = K') : SqL K' H a xs := e ▸ h
end Ur

namespace Ur
open PySem L2 PySem.Spec PyProof.Rows
/-! ### isinstance of known kinds -/
theorem kb_int_int : kitB "int" "int" = some true := by decide +kernel
theorem kb_int_bool : kitB "int" "bool" = some false := by decide +kernel
theorem kb_int_str : kitB "int" "str" = some false := by decide +kernel
theorem kb_int_list : kitB "int" "list" = some false := by decide +kernel
theorem kb_int_tuple : kitB "int" "tuple" = some false := by decide +kernel
theorem kb_int_dict : kitB "int" "dict" = some false := by decide +kernel
theorem kb_bool_int : kitB "bool" "int" = some true := by decide +kernel
theorem kb_bool_bool : kitB "bool" "bool" = some true := by decide +kernel
theorem kb_bool_str : kitB "bool" "str" = some false := by decide +kernel
theorem kb_bool_list : kitB "bool" "list" = some false := by decide +kernel
theorem kb_bool_tuple : kitB "bool" "tuple" = some false := by decide +kernel
theorem kb_bool_dict : kitB "bool" "dict" = some false := by decide +kernel
theorem kb_str_int : kitB "str" "int" = some false := by decide +kernel
theorem kb_str_bool : kitB "str" "bool" = some false := by decide +kernel
theorem kb_str_str : kitB "str" "str" = some true := by decide +kernel
theorem kb_str_list : kitB "str" "list" = some false := by decide +kernel
theorem kb_str_tuple : kitB "str" "tuple" = some false := by decide +kernel
theorem kb_str_dict : kitB "str" "dict" = some false := by decide +kernel
theorem kb_NoneType_int : kitB "NoneType" "int" = some false := by decide +kernel
theorem kb_NoneType_bool : kitB "NoneType" "bool" = some false := by decide +kernel
theorem kb_NoneType_str : kitB "NoneType" "str" = some false := by decide +kernel
theorem kb_NoneType_list : kitB "NoneType" "list" = some false := by decide +kernel
theorem kb_NoneType_tuple : kitB "NoneType" "tuple" = some false := by decide +kernel
theorem kb_NoneType_dict : kitB "NoneType" "dict" = some false := by decide +kernel
theorem kb_list_int : kitB "list" "int" = some false := by decide +kernel
theorem kb_list_bool : kitB "list" "bool" = some false := by decide +kernel
theorem kb_list_str : kitB "list" "str" = some false := by decide +kernel
theorem kb_list_list : kitB "list" "list" = some true := by decide +kernel
theorem kb_list_tuple : kitB "list" "tuple" = some false := by decide +kernel
theorem kb_list_dict : kitB "list" "dict" = some false := by decide +kernel
theorem kb_tuple_int : kitB "tuple" "int" = some false := by decide +kernel
theorem kb_tuple_bool : kitB "tuple" "bool" = some false := by decide +kernel
theorem kb_tuple_str : kitB "tuple" "str" = some false := by decide +kernel
theorem kb_tuple_list : kitB "tuple" "list" = some false := by decide +kernel
theorem kb_tuple_tuple : kitB "tuple" "tuple" = some true := by decide +kernel
theorem kb_tuple_dict : kitB "tuple" "dict" = some false := by decide +kernel
theorem kb_dict_int : kitB "dict" "int" = some false := by decide +kernel
theorem kb_dict_bool : kitB "dict" "bool" = some false := by decide +kernel
theorem kb_dict_str : kitB "dict" "str" = some false := by decide +kernel
theorem kb_dict_list : kitB "dict" "list" = some false := by decide +kernel
theorem kb_dict_tuple : kitB "dict" "tuple" = some false := by decide +kernel
theorem kb_dict_dict : kitB "dict" "dict" = some true := by decide +kernel
theorem isiK {K : PySem.W.Frag} {H : Hp} {x : V} {t T : String} {b : Bool} {Q : VK} (ty : TyX K H x (.type t)) (h : kitB t T = some b) (q : Q (.bl b) H) : rIsi K [x, .ty T] H Q :=
  ⟨x, .ty T, _, _, b, rfl, .ty _, ty, kit_ty h, q⟩
theorem tyx_lst {K : PySem.W.Frag} {H : Hp} {a : Addr} {xs : List V} (h : H a = some (.lst xs)) : TyX K H (.ref a) (.type "list") := .base (.lst h)
theorem tyx_tup {K : PySem.W.Frag} {H : Hp} {a : Addr} {xs : List V} (h : H a = some (.tup xs)) : TyX K H (.ref a) (.type "tuple") := .base (.tup h)
theorem tyx_dK {K : PySem.W.Frag} {H : Hp} {a : Addr} {xs : List (Key × V)} (h : H a = some (.dK xs)) : TyX K H (.ref a) (.type "dict") := .base (.dK h)
theorem tyx_int {K : PySem.W.Frag} {H : Hp} {i : Int} : TyX K H (.int i) (.type "int") := .base (.int i)
theorem tyx_bl {K : PySem.W.Frag} {H : Hp} {b : Bool} : TyX K H (.bl b) (.type "bool") := .base (.bl b)
theorem tyx_str {K : PySem.W.Frag} {H : Hp} {x : Str} : TyX K H (.str x) (.type "str") := .base (.str x)
theorem tyx_non {K : PySem.W.Frag} {H : Hp} : TyX K H .non (.type "NoneType") := .base .non
end Ur

namespace Ur
open PySem L2
/-! ### dicts with int keys -/
theorem isD_of {H : Hp} {a : Addr} {kvs : List (Key × V)} (h : H a = some (.dK kvs)) : IsD H a := Or.inl ⟨kvs, Or.inl h⟩
theorem dget_int {H : Hp} {a : Addr} {kvs : List (Key × V)} {n : Int} (h : H a = some (.dK kvs)) : DGet H a (.int n) (valV kvs (Sum.inl n)) := DGet.k (k := Sum.inl n) h
theorem dget_some {H : Hp} {a : Addr} {kvs : List (Key × V)} {n : Int} {v : V} (h : H a = some (.dK kvs)) (e : valV kvs (Sum.inl n) = some v) : DGet H a (.int n) (some v) := by
  rw [← e]
  exact dget_int h
theorem dput_int {H : Hp} {a : Addr} {kvs : List (Key × V)} {n : Int} {v : V} (h : H a = some (.dK kvs)) (l : kvs.length < sizeLine) : DPut H a (.int n) v (upd H a (.dK (putK kvs (Sum.inl n) v))) := DPut.k (k := Sum.inl n) h l
theorem putK_le (c : List (Key × V)) (k : Key) (x : V) : (putK c k x).length ≤ c.length + 1 := by
  unfold putK
  split
  · rw [List.length_map]; omega
  · rw [List.length_append]; exact Nat.le_refl _
theorem val_put (kvs : List (Key × V)) (k j : Int) (y : V) : valV (putK kvs (Sum.inl k) y) (Sum.inl j) = if j = k then some y else valV kvs (Sum.inl j) := by
  rw [valV_put]
  by_cases h : j = k
  · rw [if_pos h, if_pos (by rw [h])]
  · rw [if_neg h, if_neg (fun e => h (Sum.inl.inj e))]

/-! ### loops -/
section
variable {K : PySem.W.Frag} {a b : Addr} {xs ys : List V} {ns : List Int} {tb : TS} {D : Ends} {σ : L2.St} {H : Hp} {ti tv : Nat}
/-- for i, x in enumerate(list) -/
theorem for_enum (Pv : Nat → L2.St → Hp → Prop) (h0 : Pv 0 σ H) (hl : ∀ i σ H, i ≤ xs.length → Pv i σ H → SqL K H a xs)
    (hs : ∀ i x σ H H', xs[i]? = some x → Pv i σ H → Same H H' → tb { D with nx := Pv (i + 1), ct := Pv (i + 1), bk := D.nx } ((σ.set ti (some (.int (i : Nat)))).set tv (some x)) H') (hd : ∀ σ H, Pv xs.length σ H → D.nx σ H) :
    ∃ W : Nat → Nat → L2.St → Hp → Prop, (∃ m, W 0 m σ H) ∧ ∀ i m σ H, W i m σ H →
      ((Ite K a).stop i H ∧ D.nx σ H) ∨ ((Ite K a).go i H ∧ ∃ N : L2.St → Hp → Prop, (∀ σ' H', N σ' H' → ∃ m', m' < m ∧ W (i + 1) m' σ' H') ∧ ∀ x H', (Ite K a).yld i H x H' → gTup K 2 (gCons (gName ti) (gCons (gName tv) gNil)) x σ H' fun σ2 H2 => tb { D with nx := N, ct := N, bk := D.nx } σ2 H2) :=
  for_it (walk_enum (K := K) (a := a) (xs := xs)) Pv h0 hl (fun i v σ H H' hi p y => by
    obtain ⟨T, x, z, rfl, hT, rfl, hx, hz⟩ := y
    have hx' : some (V.int (i : Nat)) = some x := hx
    cases hx'
    have hz' : xs[i]? = some z := hz
    refine ⟨T, [.int (i : Nat), z], rfl, SqT.of upd_same, rfl, _, _, rfl, _, _, rfl, rfl, ?_⟩
    exact hs i z σ H _ hz' p (same_new hT)) hd
/-- for n in a list of ints -/
theorem for_ints (Pv : Nat → L2.St → Hp → Prop) (h0 : Pv 0 σ H) (hl : ∀ i σ H, i ≤ ns.length → Pv i σ H → SqL K H a (ns.map V.int))
    (hs : ∀ i n σ H, ns[i]? = some n → Pv i σ H → tb { D with nx := Pv (i + 1), ct := Pv (i + 1), bk := D.nx } (σ.set tv (some (.int n))) H) (hd : ∀ σ H, Pv ns.length σ H → D.nx σ H) :
    ∃ W : Nat → Nat → L2.St → Hp → Prop, (∃ m, W 0 m σ H) ∧ ∀ i m σ H, W i m σ H →
      ((Itl K a).stop i H ∧ D.nx σ H) ∨ ((Itl K a).go i H ∧ ∃ N : L2.St → Hp → Prop, (∀ σ' H', N σ' H' → ∃ m', m' < m ∧ W (i + 1) m' σ' H') ∧ ∀ x H', (Itl K a).yld i H x H' → gName tv x σ H' fun σ2 H2 => tb { D with nx := N, ct := N, bk := D.nx } σ2 H2) :=
  for_list (xs := ns.map V.int) Pv h0 (fun i σ H hi p => hl i σ H (by rw [List.length_map] at hi; exact hi) p) (fun i x σ H hx p => by
    obtain ⟨n, hn, rfl⟩ := iv_get hx
    exact hs i n σ H hn p) (fun σ H p => hd σ H (by rw [List.length_map] at p; exact p))
/-- while, the test's answer told; Pv by a measure -/
theorem while_ans {c : TT} (Pv : Nat → L2.St → Hp → Prop) (m0 : Nat) (h0 : Pv m0 σ H)
    (hs : ∀ m σ H, Pv m σ H → ∃ b, (∀ Q : Bool → Hp → Prop, Q b H → c σ H Q) ∧
      (b = true → tb { D with nx := fun σ' H' => ∃ m', m' < m ∧ Pv m' σ' H', ct := fun σ' H' => ∃ m', m' < m ∧ Pv m' σ' H', bk := D.nx } σ H) ∧ (b = false → D.nx σ H)) : tWhile c tb D σ H := by
  refine ⟨Pv, ⟨m0, h0⟩, fun m σ H p => ?_⟩
  obtain ⟨b, hb, h1, h2⟩ := hs m σ H p
  refine hb _ ?_
  cases b with
  | true => exact (if_pos rfl).mpr ⟨_, fun _ _ n => n, h1 rfl⟩
  | false => exact (if_neg Bool.false_ne_true).mpr (h2 rfl)
end

/-! ### comprehensions -/
section
variable {K : PySem.W.Frag} {a : Addr} {xs : List V} {ns : List Int} {σ : L2.St} {H1 : Hp} {Dl : Addr} {te : TE} {tt : TT} {vs : List Nat} {j : Nat} {lo : Int} {n : Nat} {Qd : Hp → Prop}
theorem tyes_ok {σ : L2.St} {H : Hp} {A B : Hp → Prop} (h : A H) : tYes σ H (fun b H3 => if b = true then A H3 else B H3) := by
  show (if true = true then A H else B H)
  rw [if_pos rfl]
  exact h
/-- [e for k in range(..)], e a value that leaves all as it was -/
theorem lc_rng (f : Nat → V) (hn : n ≤ 1000000) (hD : H1 Dl = none) (hw : ∀ x, wipe ((wipe σ vs).set j (some x)) vs = wipe σ vs)
    (he : ∀ (k : Nat) H', k < n → Same H1 H' → ∀ Q' : VK, (∀ H4, Same H' H4 → Q' (f k) H4) → te ((wipe σ vs).set j (some (.int (lo + (k : Nat))))) H' Q')
    (hd : ∀ H', Same H1 H' → H' Dl = some (.lst ((List.range n).map f)) → Qd H') :
    ∃ W : Nat → Nat → Hp → Prop, (∃ m, W 0 m (upd H1 Dl (.lst []))) ∧ ∀ i m H, W i m H →
      ((Itr lo n).stop i H ∧ Qd H) ∨ ((Itr lo n).go i H ∧ ∃ Nx : Hp → Prop, (∀ H', Nx H' → ∃ m', m' < m ∧ W (i + 1) m' H') ∧ ∀ x H', (Itr lo n).yld i H x H' → gName j x (wipe σ vs) H' fun σ2 H2 => wipe σ2 vs = wipe σ vs ∧ tYes σ2 H2 fun b H3 =>
        if b = true then te σ2 H3 fun y H4 => ∃ acc, H4 Dl = some (.lst acc) ∧ acc.length < sizeLine ∧ Nx (upd H4 Dl (.lst (acc ++ [y]))) else Nx H3) := by
  refine lc_range (lo := lo) (n := n) (fun i H' => Same H1 H' ∧ H' Dl = some (.lst ((List.range i).map f))) ⟨same_new hD, upd_same⟩ (fun i H' hi p => ?_) (fun H' p => hd H' p.1 p.2)
  refine ⟨hw _, ?_⟩
  refine tyes_ok ?_
  refine he i H' hi p.1 _ fun H4 s => ⟨_, s _ _ p.2, szl (by rw [List.length_map, List.length_range]; omega), same_upd' hD (p.1.trans s), ?_⟩
  rw [upd_same, List.range_succ, List.map_append]
  rfl
/-- [e for x in a list of ints] -/
theorem lc_ints (f : Int → V) (hn : ns.length ≤ 1000000) (ha : SqL K H1 a (ns.map V.int)) (hD : H1 Dl = none) (hw : ∀ x, wipe ((wipe σ vs).set j (some x)) vs = wipe σ vs)
    (he : ∀ (x : Int) H', x ∈ ns → Same H1 H' → ∀ Q' : VK, (∀ H4, Same H' H4 → Q' (f x) H4) → te ((wipe σ vs).set j (some (.int x))) H' Q')
    (hd : ∀ H', Same H1 H' → H' Dl = some (.lst (ns.map f)) → Qd H') :
    ∃ W : Nat → Nat → Hp → Prop, (∃ m, W 0 m (upd H1 Dl (.lst []))) ∧ ∀ i m H, W i m H →
      ((Itl K a).stop i H ∧ Qd H) ∨ ((Itl K a).go i H ∧ ∃ Nx : Hp → Prop, (∀ H', Nx H' → ∃ m', m' < m ∧ W (i + 1) m' H') ∧ ∀ x H', (Itl K a).yld i H x H' → gName j x (wipe σ vs) H' fun σ2 H2 => wipe σ2 vs = wipe σ vs ∧ tYes σ2 H2 fun b H3 =>
        if b = true then te σ2 H3 fun y H4 => ∃ acc, H4 Dl = some (.lst acc) ∧ acc.length < sizeLine ∧ Nx (upd H4 Dl (.lst (acc ++ [y]))) else Nx H3) := by
  refine lc_list (K := K) (a := a) (xs := ns.map V.int) (fun i H' => Same H1 H' ∧ H' Dl = some (.lst ((ns.take i).map f))) ⟨same_new hD, upd_same⟩ (fun i H' _ p => p.1.seq ha) (fun i x H' hx p => ?_) (fun H' p => ?_)
  · obtain ⟨z, hz, rfl⟩ := iv_get hx
    have hi := (List.getElem?_eq_some_iff.mp hz).1
    refine ⟨hw _, ?_⟩
    refine tyes_ok ?_
    refine he z H' (List.mem_of_getElem? hz) p.1 _ fun H4 s => ⟨_, s _ _ p.2, szl (by rw [List.length_map, List.length_take]; omega), same_upd' hD (p.1.trans s), ?_⟩
    rw [upd_same, List.take_add_one, hz, List.map_append]
    rfl
  · have h2 := p.2
    rw [List.length_map, List.take_length] at h2
    exact hd H' p.1 h2
/-- [e for k in range(..) if t] -/
theorem lc_rngIf (t : Nat → Bool) (f : Nat → V) (hn : n ≤ 1000000) (hD : H1 Dl = none) (hw : ∀ x, wipe ((wipe σ vs).set j (some x)) vs = wipe σ vs)
    (ht : ∀ (k : Nat) H', k < n → Same H1 H' → ∀ Q' : Bool → Hp → Prop, (∀ H4, Same H' H4 → Q' (t k) H4) → tt ((wipe σ vs).set j (some (.int (lo + (k : Nat))))) H' Q')
    (he : ∀ (k : Nat) H', k < n → t k = true → Same H1 H' → ∀ Q' : VK, (∀ H4, Same H' H4 → Q' (f k) H4) → te ((wipe σ vs).set j (some (.int (lo + (k : Nat))))) H' Q')
    (hd : ∀ H', Same H1 H' → H' Dl = some (.lst (((List.range n).filter t).map f)) → Qd H') :
    ∃ W : Nat → Nat → Hp → Prop, (∃ m, W 0 m (upd H1 Dl (.lst []))) ∧ ∀ i m H, W i m H →
      ((Itr lo n).stop i H ∧ Qd H) ∨ ((Itr lo n).go i H ∧ ∃ Nx : Hp → Prop, (∀ H', Nx H' → ∃ m', m' < m ∧ W (i + 1) m' H') ∧ ∀ x H', (Itr lo n).yld i H x H' → gName j x (wipe σ vs) H' fun σ2 H2 => wipe σ2 vs = wipe σ vs ∧ tt σ2 H2 fun b H3 =>
        if b = true then te σ2 H3 fun y H4 => ∃ acc, H4 Dl = some (.lst acc) ∧ acc.length < sizeLine ∧ Nx (upd H4 Dl (.lst (acc ++ [y]))) else Nx H3) := by
  refine lc_range (lo := lo) (n := n) (fun i H' => Same H1 H' ∧ H' Dl = some (.lst (((List.range i).filter t).map f))) ⟨same_new hD, upd_same⟩ (fun i H' hi p => ?_) (fun H' p => hd H' p.1 p.2)
  refine ⟨hw _, ?_⟩
  refine ht i H' hi p.1 _ fun H3 s3 => ?_
  cases hb : t i with
  | true =>
    refine (if_pos rfl).mpr ?_
    refine he i H3 hi hb (p.1.trans s3) _ fun H4 s => ⟨_, s _ _ (s3 _ _ p.2), szl ?_, same_upd' hD ((p.1.trans s3).trans s), ?_⟩
    · have := List.length_filter_le t (List.range i)
      rw [List.length_range] at this
      rw [List.length_map]; omega
    rw [upd_same, List.range_succ, List.filter_append, List.map_append, List.filter_cons, if_pos hb]
    rfl
  | false =>
    refine (if_neg Bool.false_ne_true).mpr ⟨p.1.trans s3, ?_⟩
    rw [List.range_succ, List.filter_append, List.map_append, List.filter_cons, if_neg (by rw [hb]; exact Bool.false_ne_true)]
    simpa using s3 _ _ p.2
/-- [e for x in a list of ints if t] -/
theorem lc_intsIf (t : Int → Bool) (f : Int → V) (hn : ns.length ≤ 1000000) (ha : SqL K H1 a (ns.map V.int)) (hD : H1 Dl = none) (hw : ∀ x, wipe ((wipe σ vs).set j (some x)) vs = wipe σ vs)
    (ht : ∀ (x : Int) H', x ∈ ns → Same H1 H' → ∀ Q' : Bool → Hp → Prop, (∀ H4, Same H' H4 → Q' (t x) H4) → tt ((wipe σ vs).set j (some (.int x))) H' Q')
    (he : ∀ (x : Int) H', x ∈ ns → t x = true → Same H1 H' → ∀ Q' : VK, (∀ H4, Same H' H4 → Q' (f x) H4) → te ((wipe σ vs).set j (some (.int x))) H' Q')
    (hd : ∀ H', Same H1 H' → H' Dl = some (.lst ((ns.filter t).map f)) → Qd H') :
    ∃ W : Nat → Nat → Hp → Prop, (∃ m, W 0 m (upd H1 Dl (.lst []))) ∧ ∀ i m H, W i m H →
      ((Itl K a).stop i H ∧ Qd H) ∨ ((Itl K a).go i H ∧ ∃ Nx : Hp → Prop, (∀ H', Nx H' → ∃ m', m' < m ∧ W (i + 1) m' H') ∧ ∀ x H', (Itl K a).yld i H x H' → gName j x (wipe σ vs) H' fun σ2 H2 => wipe σ2 vs = wipe σ vs ∧ tt σ2 H2 fun b H3 =>
        if b = true then te σ2 H3 fun y H4 => ∃ acc, H4 Dl = some (.lst acc) ∧ acc.length < sizeLine ∧ Nx (upd H4 Dl (.lst (acc ++ [y]))) else Nx H3) := by
  refine lc_list (K := K) (a := a) (xs := ns.map V.int) (fun i H' => Same H1 H' ∧ H' Dl = some (.lst (((ns.take i).filter t).map f))) ⟨same_new hD, upd_same⟩ (fun i H' _ p => p.1.seq ha) (fun i x H' hx p => ?_) (fun H' p => ?_)
  · obtain ⟨z, hz, rfl⟩ := iv_get hx
    have hi := (List.getElem?_eq_some_iff.mp hz).1
    have hm := List.mem_of_getElem? hz
    refine ⟨hw _, ?_⟩
    refine ht z H' hm p.1 _ fun H3 s3 => ?_
    have e1 : ns.take (i + 1) = ns.take i ++ [z] := by rw [List.take_add_one, hz]; rfl
    cases hb : t z with
    | true =>
      refine (if_pos rfl).mpr ?_
      refine he z H3 hm hb (p.1.trans s3) _ fun H4 s => ⟨_, s _ _ (s3 _ _ p.2), szl ?_, same_upd' hD ((p.1.trans s3).trans s), ?_⟩
      · have := List.length_filter_le t (ns.take i)
        rw [List.length_take] at this
        rw [List.length_map]; omega
      rw [upd_same, e1, List.filter_append, List.map_append, List.filter_cons, if_pos hb]
      rfl
    | false =>
      refine (if_neg Bool.false_ne_true).mpr ⟨p.1.trans s3, ?_⟩
      rw [e1, List.filter_append, List.map_append, List.filter_cons, if_neg (by rw [hb]; exact Bool.false_ne_true)]
      simpa using s3 _ _ p.2
  · have h2 := p.2
    rw [List.length_map, List.take_length] at h2
    exact hd H' p.1 h2
/-- [e for x in a list if t], t never -/
theorem lc_none (ha : SqL K H1 a xs) (hD : H1 Dl = none) (hw : ∀ x, wipe ((wipe σ vs).set j (some x)) vs = wipe σ vs)
    (ht : ∀ (x : V) H', x ∈ xs → Same H1 H' → ∀ Q' : Bool → Hp → Prop, (∀ H4, Same H' H4 → Q' false H4) → tt ((wipe σ vs).set j (some x)) H' Q')
    (hd : ∀ H', Same H1 H' → H' Dl = some (.lst []) → Qd H') :
    ∃ W : Nat → Nat → Hp → Prop, (∃ m, W 0 m (upd H1 Dl (.lst []))) ∧ ∀ i m H, W i m H →
      ((Itl K a).stop i H ∧ Qd H) ∨ ((Itl K a).go i H ∧ ∃ Nx : Hp → Prop, (∀ H', Nx H' → ∃ m', m' < m ∧ W (i + 1) m' H') ∧ ∀ x H', (Itl K a).yld i H x H' → gName j x (wipe σ vs) H' fun σ2 H2 => wipe σ2 vs = wipe σ vs ∧ tt σ2 H2 fun b H3 =>
        if b = true then te σ2 H3 fun y H4 => ∃ acc, H4 Dl = some (.lst acc) ∧ acc.length < sizeLine ∧ Nx (upd H4 Dl (.lst (acc ++ [y]))) else Nx H3) := by
  refine lc_list (K := K) (a := a) (xs := xs) (fun _ H' => Same H1 H' ∧ H' Dl = some (.lst [])) ⟨same_new hD, upd_same⟩ (fun i H' _ p => p.1.seq ha) (fun i x H' hx p => ?_) (fun H' p => hd H' p.1 p.2)
  refine ⟨hw _, ?_⟩
  refine ht x H' (List.mem_of_getElem? hx) p.1 _ fun H3 s3 => ?_
  exact (if_neg Bool.false_ne_true).mpr ⟨p.1.trans s3, s3 _ _ p.2⟩
end
/-! the same, the items ints -/
section
variable {K : PySem.W.Frag} {a : Addr} {xs : List V} {ns : List Int} {σ : L2.St} {H1 : Hp} {Dl : Addr} {te : TE} {tt : TT} {vs : List Nat} {j : Nat} {lo : Int} {n : Nat} {Qd : Hp → Prop}
theorem lc_rngI (f : Nat → Int) (hn : n ≤ 1000000) (hD : H1 Dl = none) (hw : ∀ x, wipe ((wipe σ vs).set j (some x)) vs = wipe σ vs)
    (he : ∀ (k : Nat) H', k < n → Same H1 H' → ∀ Q' : VK, (∀ H4, Same H' H4 → Q' (.int (f k)) H4) → te ((wipe σ vs).set j (some (.int (lo + (k : Nat))))) H' Q')
    (hd : ∀ H', Same H1 H' → H' Dl = some (.lst (((List.range n).map f).map V.int)) → Qd H') :
    ∃ W : Nat → Nat → Hp → Prop, (∃ m, W 0 m (upd H1 Dl (.lst []))) ∧ ∀ i m H, W i m H →
      ((Itr lo n).stop i H ∧ Qd H) ∨ ((Itr lo n).go i H ∧ ∃ Nx : Hp → Prop, (∀ H', Nx H' → ∃ m', m' < m ∧ W (i + 1) m' H') ∧ ∀ x H', (Itr lo n).yld i H x H' → gName j x (wipe σ vs) H' fun σ2 H2 => wipe σ2 vs = wipe σ vs ∧ tYes σ2 H2 fun b H3 =>
        if b = true then te σ2 H3 fun y H4 => ∃ acc, H4 Dl = some (.lst acc) ∧ acc.length < sizeLine ∧ Nx (upd H4 Dl (.lst (acc ++ [y]))) else Nx H3) :=
  lc_rng (fun k => V.int (f k)) hn hD hw he fun H' s e => hd H' s (by rw [e, List.map_map]; rfl)
theorem lc_intsI (f : Int → Int) (hn : ns.length ≤ 1000000) (ha : SqL K H1 a (ns.map V.int)) (hD : H1 Dl = none) (hw : ∀ x, wipe ((wipe σ vs).set j (some x)) vs = wipe σ vs)
    (he : ∀ (x : Int) H', x ∈ ns → Same H1 H' → ∀ Q' : VK, (∀ H4, Same H' H4 → Q' (.int (f x)) H4) → te ((wipe σ vs).set j (some (.int x))) H' Q')
    (hd : ∀ H', Same H1 H' → H' Dl = some (.lst ((ns.map f).map V.int)) → Qd H') :
    ∃ W : Nat → Nat → Hp → Prop, (∃ m, W 0 m (upd H1 Dl (.lst []))) ∧ ∀ i m H, W i m H →
      ((Itl K a).stop i H ∧ Qd H) ∨ ((Itl K a).go i H ∧ ∃ Nx : Hp → Prop, (∀ H', Nx H' → ∃ m', m' < m ∧ W (i + 1) m' H') ∧ ∀ x H', (Itl K a).yld i H x H' → gName j x (wipe σ vs) H' fun σ2 H2 => wipe σ2 vs = wipe σ vs ∧ tYes σ2 H2 fun b H3 =>
        if b = true then te σ2 H3 fun y H4 => ∃ acc, H4 Dl = some (.lst acc) ∧ acc.length < sizeLine ∧ Nx (upd H4 Dl (.lst (acc ++ [y]))) else Nx H3) :=
  lc_ints (fun k => V.int (f k)) hn ha hD hw he fun H' s e => hd H' s (by rw [e, List.map_map]; rfl)
theorem lc_rngIfI (t : Nat → Bool) (f : Nat → Int) (hn : n ≤ 1000000) (hD : H1 Dl = none) (hw : ∀ x, wipe ((wipe σ vs).set j (some x)) vs = wipe σ vs)
    (ht : ∀ (k : Nat) H', k < n → Same H1 H' → ∀ Q' : Bool → Hp → Prop, (∀ H4, Same H' H4 → Q' (t k) H4) → tt ((wipe σ vs).set j (some (.int (lo + (k : Nat))))) H' Q')
    (he : ∀ (k : Nat) H', k < n → t k = true → Same H1 H' → ∀ Q' : VK, (∀ H4, Same H' H4 → Q' (.int (f k)) H4) → te ((wipe σ vs).set j (some (.int (lo + (k : Nat))))) H' Q')
    (hd : ∀ H', Same H1 H' → H' Dl = some (.lst ((((List.range n).filter t).map f).map V.int)) → Qd H') :
    ∃ W : Nat → Nat → Hp → Prop, (∃ m, W 0 m (upd H1 Dl (.lst []))) ∧ ∀ i m H, W i m H →
      ((Itr lo n).stop i H ∧ Qd H) ∨ ((Itr lo n).go i H ∧ ∃ Nx : Hp → Prop, (∀ H', Nx H' → ∃ m', m' < m ∧ W (i + 1) m' H') ∧ ∀ x H', (Itr lo n).yld i H x H' → gName j x (wipe σ vs) H' fun σ2 H2 => wipe σ2 vs = wipe σ vs ∧ tt σ2 H2 fun b H3 =>
        if b = true then te σ2 H3 fun y H4 => ∃ acc, H4 Dl = some (.lst acc) ∧ acc.length < sizeLine ∧ Nx (upd H4 Dl (.lst (acc ++ [y]))) else Nx H3) :=
  lc_rngIf t (fun k => V.int (f k)) hn hD hw ht he fun H' s e => hd H' s (by rw [e, List.map_map]; rfl)
theorem lc_intsIfI (t : Int → Bool) (f : Int → Int) (hn : ns.length ≤ 1000000) (ha : SqL K H1 a (ns.map V.int)) (hD : H1 Dl = none) (hw : ∀ x, wipe ((wipe σ vs).set j (some x)) vs = wipe σ vs)
    (ht : ∀ (x : Int) H', x ∈ ns → Same H1 H' → ∀ Q' : Bool → Hp → Prop, (∀ H4, Same H' H4 → Q' (t x) H4) → tt ((wipe σ vs).set j (some (.int x))) H' Q')
    (he : ∀ (x : Int) H', x ∈ ns → t x = true → Same H1 H' → ∀ Q' : VK, (∀ H4, Same H' H4 → Q' (.int (f x)) H4) → te ((wipe σ vs).set j (some (.int x))) H' Q')
    (hd : ∀ H', Same H1 H' → H' Dl = some (.lst (((ns.filter t).map f).map V.int)) → Qd H') :
    ∃ W : Nat → Nat → Hp → Prop, (∃ m, W 0 m (upd H1 Dl (.lst []))) ∧ ∀ i m H, W i m H →
      ((Itl K a).stop i H ∧ Qd H) ∨ ((Itl K a).go i H ∧ ∃ Nx : Hp → Prop, (∀ H', Nx H' → ∃ m', m' < m ∧ W (i + 1) m' H') ∧ ∀ x H', (Itl K a).yld i H x H' → gName j x (wipe σ vs) H' fun σ2 H2 => wipe σ2 vs = wipe σ vs ∧ tt σ2 H2 fun b H3 =>
        if b = true then te σ2 H3 fun y H4 => ∃ acc, H4 Dl = some (.lst acc) ∧ acc.length < sizeLine ∧ Nx (upd H4 Dl (.lst (acc ++ [y]))) else Nx H3) :=
  lc_intsIf t (fun k => V.int (f k)) hn ha hD hw ht he fun H' s e => hd H' s (by rw [e, List.map_map]; rfl)
end
/-! the same, a state at a changing with each item: S tells what it may be, R the items -/
section
variable {K : PySem.W.Frag} {a st : Addr} {xs : List V} {ns : List Int} {σ : L2.St} {H1 : Hp} {Dl : Addr} {te : TE} {tt : TT} {vs : List Nat} {j : Nat} {lo : Int} {n : Nat} {Qd : Hp → Prop}
theorem lc_rngS (S : HO → Prop) (R : Int → Prop) {o1 : HO} (ha : H1 st = some o1) (hS : S o1) (hn : n ≤ 1000000) (hD : H1 Dl = none) (hw : ∀ x, wipe ((wipe σ vs).set j (some x)) vs = wipe σ vs)
    (he : ∀ (k : Nat) H' o, k < n → But st H1 H' → H' st = some o → S o → ∀ Q' : VK, (∀ v H4 o4, R v → But st H' H4 → H4 st = some o4 → S o4 → Q' (.int v) H4) → te ((wipe σ vs).set j (some (.int (lo + (k : Nat))))) H' Q')
    (hd : ∀ H' (ms : List Int) o, ms.length = n → (∀ x ∈ ms, R x) → But st H1 H' → H' Dl = some (.lst (ms.map V.int)) → H' st = some o → S o → Qd H') :
    ∃ W : Nat → Nat → Hp → Prop, (∃ m, W 0 m (upd H1 Dl (.lst []))) ∧ ∀ i m H, W i m H →
      ((Itr lo n).stop i H ∧ Qd H) ∨ ((Itr lo n).go i H ∧ ∃ Nx : Hp → Prop, (∀ H', Nx H' → ∃ m', m' < m ∧ W (i + 1) m' H') ∧ ∀ x H', (Itr lo n).yld i H x H' → gName j x (wipe σ vs) H' fun σ2 H2 => wipe σ2 vs = wipe σ vs ∧ tYes σ2 H2 fun b H3 =>
        if b = true then te σ2 H3 fun y H4 => ∃ acc, H4 Dl = some (.lst acc) ∧ acc.length < sizeLine ∧ Nx (upd H4 Dl (.lst (acc ++ [y]))) else Nx H3) := by
  have hne : Dl ≠ st := (ne_of_none ha hD).symm
  refine lc_range (lo := lo) (n := n) (fun i H' => ∃ (ms : List Int) (o : HO), H' Dl = some (.lst (ms.map V.int)) ∧ H' st = some o ∧ S o ∧ But st H1 H' ∧ ms.length = i ∧ ∀ x ∈ ms, R x)
    ⟨[], o1, upd_same, (upd_ne hne.symm).trans ha, hS, but_snoc hD but_refl, rfl, fun _ h => by cases h⟩ (fun i H' hi p => ?_) (fun H' p => ?_)
  · obtain ⟨ms, o, e1, e2, e3, e4, e5, e6⟩ := p
    refine ⟨hw _, ?_⟩
    refine tyes_ok ?_
    refine he i H' o hi e4 e2 e3 _ fun v H4 o4 rv b4 s4 z4 => ⟨_, b4 _ _ hne e1, szl (by rw [List.length_map]; omega), ms ++ [v], o4, upd_snoc, (upd_ne hne.symm).trans s4, z4, but_upd hD (but_step b4 e4), by rw [List.length_append, e5]; rfl, fun x hx => ?_⟩
    rcases List.mem_append.mp hx with h | h
    · exact e6 x h
    · rw [List.mem_singleton.mp h]; exact rv
  · obtain ⟨ms, o, e1, e2, e3, e4, e5, e6⟩ := p
    exact hd H' ms o e5 e6 e4 e1 e2 e3
end
end Ur

namespace Ur
open PySem L2
structure HandOk (d m : Int) : Prop where
  d0 : 0 ≤ d
  m0 : 0 ≤ m
  m1 : m < 2147483587
end Ur

namespace Ur
open PySem L2
/-! ### last and next places: the plain functions -/
/-- the greatest place below i with the number x, or -1 -/
def lastAt (ns : List Int) : Nat → Int → Int
  | 0, _ => -1
  | i + 1, x => if ns.getD i 0 = x then (i : Int) else lastAt ns i x
def lastP (ns : List Int) : List Int := (List.range ns.length).map fun k => lastAt ns k (ns.getD k 0)
theorem lastP_len (ns : List Int) : (lastP ns).length = ns.length := by simp [lastP]
theorem lastP_get {ns : List Int} {k : Nat} (h : k < ns.length) : (lastP ns)[k]? = some (lastAt ns k (ns.getD k 0)) := by
  unfold lastP
  rw [List.getElem?_map, List.getElem?_range h]
  rfl
theorem lastP_take {ns : List Int} {i : Nat} (h : i < ns.length) : (lastP ns).take (i + 1) = (lastP ns).take i ++ [lastAt ns i (ns.getD i 0)] := by
  rw [List.take_add_one, lastP_get h]
  rfl
theorem lastAt_spec (ns : List Int) (x : Int) : ∀ i : Nat, (lastAt ns i x = -1 ∧ ∀ j, j < i → ns.getD j 0 ≠ x) ∨ ∃ v : Nat, lastAt ns i x = v ∧ v < i ∧ ns.getD v 0 = x ∧ ∀ j, v < j → j < i → ns.getD j 0 ≠ x
  | 0 => Or.inl ⟨rfl, fun _ h => absurd h (Nat.not_lt_zero _)⟩
  | i + 1 => by
    by_cases h : ns.getD i 0 = x
    · refine Or.inr ⟨i, ?_, Nat.lt_succ_self _, h, fun j h1 h2 => by omega⟩
      show (if ns.getD i 0 = x then (i : Int) else lastAt ns i x) = i
      rw [if_pos h]
    · have e : lastAt ns (i + 1) x = lastAt ns i x := by
        show (if ns.getD i 0 = x then (i : Int) else lastAt ns i x) = _
        rw [if_neg h]
      rcases lastAt_spec ns x i with ⟨h1, h2⟩ | ⟨v, h1, h2, h3, h4⟩
      · refine Or.inl ⟨e.trans h1, fun j hj => ?_⟩
        by_cases hji : j = i
        · rw [hji]; exact h
        · exact h2 j (by omega)
      · refine Or.inr ⟨v, e.trans h1, by omega, h3, fun j hj1 hj2 => ?_⟩
        by_cases hji : j = i
        · rw [hji]; exact h
        · exact h4 j hj1 (by omega)
theorem lastAt_range (ns : List Int) (x : Int) (i : Nat) : -1 ≤ lastAt ns i x ∧ lastAt ns i x < i := by
  rcases lastAt_spec ns x i with ⟨h1, _⟩ | ⟨v, h1, h2, _⟩ <;> omega
/-- what is it and nothing greater -/
theorem lastAt_uniq {ns : List Int} {x : Int} {i : Nat} {m : Int} (h1 : m = -1 ∨ ∃ v : Nat, m = v ∧ v < i ∧ ns.getD v 0 = x) (h2 : ∀ j : Nat, j < i → ns.getD j 0 = x → (j : Int) ≤ m) : lastAt ns i x = m := by
  rcases lastAt_spec ns x i with ⟨a1, a2⟩ | ⟨v, a1, a2, a3, a4⟩
  · rcases h1 with e | ⟨v, e, hv, hx⟩
    · omega
    · exact absurd hx (a2 v hv)
  · have q := h2 v a2 a3
    rcases h1 with e | ⟨u, e, hu, hx⟩
    · omega
    · by_cases huv : v < u
      · exact absurd hx (a4 u huv hu)
      · omega
/-- the least place above k, below i, with k's number, or the length -/
def nextUp (ns : List Int) (k : Nat) : Nat → Int
  | 0 => ns.length
  | i + 1 => if nextUp ns k i < ns.length then nextUp ns k i else if k < i ∧ ns.getD i 0 = ns.getD k 0 then (i : Int) else ns.length
def nextP (ns : List Int) : List Int := (List.range ns.length).map fun k => nextUp ns k ns.length
theorem nextP_len (ns : List Int) : (nextP ns).length = ns.length := by simp [nextP]
theorem nextP_get {ns : List Int} {k : Nat} (h : k < ns.length) : (nextP ns)[k]? = some (nextUp ns k ns.length) := by
  unfold nextP
  rw [List.getElem?_map, List.getElem?_range h]
  rfl
theorem nextUp_spec (ns : List Int) (k : Nat) : ∀ i : Nat, i ≤ ns.length → (nextUp ns k i = ns.length ∧ ∀ j, k < j → j < i → ns.getD j 0 ≠ ns.getD k 0) ∨ ∃ v : Nat, nextUp ns k i = v ∧ k < v ∧ v < i ∧ ns.getD v 0 = ns.getD k 0 ∧ ∀ j, k < j → j < v → ns.getD j 0 ≠ ns.getD k 0
  | 0, _ => Or.inl ⟨rfl, fun _ _ h => absurd h (Nat.not_lt_zero _)⟩
  | i + 1, hi => by
    have e : nextUp ns k (i + 1) = if nextUp ns k i < ns.length then nextUp ns k i else if k < i ∧ ns.getD i 0 = ns.getD k 0 then (i : Int) else ns.length := rfl
    rcases nextUp_spec ns k i (by omega) with ⟨h1, h2⟩ | ⟨v, h1, h2, h3, h4, h5⟩
    · rw [if_neg (by omega)] at e
      by_cases h : k < i ∧ ns.getD i 0 = ns.getD k 0
      · rw [if_pos h] at e
        exact Or.inr ⟨i, e, h.1, Nat.lt_succ_self _, h.2, h2⟩
      · rw [if_neg h] at e
        refine Or.inl ⟨e, fun j hj1 hj2 => ?_⟩
        by_cases hji : j = i
        · rw [hji]; exact fun z => h ⟨by omega, z⟩
        · exact h2 j hj1 (by omega)
    · rw [if_pos (by omega)] at e
      exact Or.inr ⟨v, e.trans h1, h2, by omega, h4, h5⟩
theorem nextUp_uniq {ns : List Int} {k i : Nat} (hi : i ≤ ns.length) {m : Int} (h1 : m = ns.length ∨ ∃ v : Nat, m = v ∧ k < v ∧ v < i ∧ ns.getD v 0 = ns.getD k 0) (h2 : ∀ j : Nat, k < j → j < i → ns.getD j 0 = ns.getD k 0 → m ≤ (j : Int)) (h3 : m ≤ ns.length) : nextUp ns k i = m := by
  rcases nextUp_spec ns k i hi with ⟨a1, a2⟩ | ⟨v, a1, a2, a3, a4, a5⟩
  · rcases h1 with e | ⟨v, e, hv, hv2, hx⟩
    · omega
    · exact absurd hx (a2 v hv hv2)
  · have q := h2 v a2 a3 a4
    rcases h1 with e | ⟨u, e, hu, hu2, hx⟩
    · omega
    · by_cases huv : u < v
      · exact absurd hx (a5 u hu huv)
      · omega
/-- one place on: the next place of k is i just where k is i's last place -/
theorem nextUp_step {ns : List Int} {k i : Nat} (hi : i < ns.length) (hk : k < ns.length) : nextUp ns k (i + 1) = if lastAt ns i (ns.getD i 0) = (k : Int) then (i : Int) else nextUp ns k i := by
  have e : nextUp ns k (i + 1) = if nextUp ns k i < ns.length then nextUp ns k i else if k < i ∧ ns.getD i 0 = ns.getD k 0 then (i : Int) else ns.length := rfl
  rw [e]
  rcases nextUp_spec ns k i (by omega) with ⟨a1, a2⟩ | ⟨v, a1, a2, a3, a4, a5⟩
  · rw [if_neg (by omega)]
    by_cases h : k < i ∧ ns.getD i 0 = ns.getD k 0
    · rw [if_pos h, if_pos]
      refine lastAt_uniq (Or.inr ⟨k, rfl, h.1, h.2.symm⟩) fun j hj hx => ?_
      by_cases hkj : k < j
      · exact absurd (hx.trans h.2) (a2 j hkj hj)
      · omega
    · rw [if_neg h, if_neg, a1]
      intro q
      rcases lastAt_spec ns (ns.getD i 0) i with ⟨b1, _⟩ | ⟨u, b1, b2, b3, _⟩
      · omega
      · have : u = k := by omega
        subst this
        exact h ⟨b2, b3.symm⟩
  · rw [if_pos (by omega), if_neg]
    intro q
    rcases lastAt_spec ns (ns.getD i 0) i with ⟨b1, _⟩ | ⟨u, b1, b2, b3, b4⟩
    · omega
    · have : u = k := by omega
      subst this
      exact b4 v a2 a3 (a4.trans b3)
theorem getD_of {ns : List Int} {i : Nat} {n : Int} (h : ns[i]? = some n) : ns.getD i 0 = n := by
  rw [List.getD_eq_getElem?_getD, h]; rfl
theorem get_of {ns : List Int} {i : Nat} (h : i < ns.length) : ns[i]? = some (ns.getD i 0) := by
  rw [List.getD_eq_getElem?_getD, List.getElem?_eq_getElem h]; rfl
theorem ext_getD {ns ms : List Int} (hl : ns.length = ms.length) (h : ∀ i, i < ns.length → ns.getD i 0 = ms.getD i 0) : ns = ms := by
  refine List.ext_getElem? fun i => ?_
  by_cases hi : i < ns.length
  · rw [get_of hi, get_of (by omega), h i hi]
  · rw [List.getElem?_eq_none (by omega), List.getElem?_eq_none (by omega)]
/-- a list of ints at an address, its items told otherwise -/
theorem lst_cast {H : Hp} {a : Addr} {xs ys : List V} (h : H a = some (.lst xs)) (e : xs = ys) : H a = some (.lst ys) := by rw [h, e]
/-! what the laws' own ways of reckoning come to -/
theorem tn0 (k : Nat) : ((0 : Int) + (k : Int)).toNat = k := by omega
theorem dvi {a b : Int} : decide (V.int a = V.int b) = decide (a = b) := by
  by_cases h : a = b
  · rw [h]; simp
  · rw [decide_eq_false h]
    exact decide_eq_false (fun e => h (V.int.inj e))
theorem lasts_max {ns : List Int} {k : Nat} {m : Int}
    (h1 : m ∈ (-1 : Int) :: ((List.range ((0 : Int) + (k : Int)).toNat).filter fun j : Nat => decide (V.int (ns.getD ((0 : Int) + (j : Int)).toNat 0) = V.int (ns.getD ((0 : Int) + (k : Int)).toNat 0))).map fun j : Nat => (0 : Int) + (j : Int))
    (h2 : ∀ x ∈ (-1 : Int) :: ((List.range ((0 : Int) + (k : Int)).toNat).filter fun j : Nat => decide (V.int (ns.getD ((0 : Int) + (j : Int)).toNat 0) = V.int (ns.getD ((0 : Int) + (k : Int)).toNat 0))).map fun j : Nat => (0 : Int) + (j : Int), x ≤ m) :
    lastAt ns k (ns.getD k 0) = m := by
  simp only [tn0, dvi] at h1 h2
  refine lastAt_uniq ?_ (fun j hj e => ?_)
  · rcases List.mem_cons.mp h1 with e | e
    · exact Or.inl e
    · obtain ⟨j, hj, rfl⟩ := List.mem_map.mp e
      obtain ⟨hj1, hj2⟩ := List.mem_filter.mp hj
      exact Or.inr ⟨j, by omega, List.mem_range.mp hj1, of_decide_eq_true hj2⟩
  · have h := h2 (0 + (j : Int)) (List.mem_cons_of_mem _ (List.mem_map.mpr ⟨j, List.mem_filter.mpr ⟨List.mem_range.mpr hj, decide_eq_true e⟩, rfl⟩))
    omega
theorem tn1 (n k : Nat) : ((n : Int) - ((0 : Int) + (k : Int) + 1)).toNat = n - (k + 1) := by omega
theorem tn2 (k j : Nat) : ((0 : Int) + (k : Int) + 1 + (j : Int)).toNat = k + 1 + j := by omega
theorem nexts_min {ns : List Int} {k : Nat} {m : Int} (hk : k < ns.length)
    (h1 : m ∈ ((List.range ((ns.length : Int) - ((0 : Int) + (k : Int) + 1)).toNat).filter fun j : Nat => decide (V.int (ns.getD ((0 : Int) + (k : Int) + 1 + (j : Int)).toNat 0) = V.int (ns.getD ((0 : Int) + (k : Int)).toNat 0))).map (fun j : Nat => (0 : Int) + (k : Int) + 1 + (j : Int)) ++ [(ns.length : Int)])
    (h2 : ∀ x ∈ ((List.range ((ns.length : Int) - ((0 : Int) + (k : Int) + 1)).toNat).filter fun j : Nat => decide (V.int (ns.getD ((0 : Int) + (k : Int) + 1 + (j : Int)).toNat 0) = V.int (ns.getD ((0 : Int) + (k : Int)).toNat 0))).map (fun j : Nat => (0 : Int) + (k : Int) + 1 + (j : Int)) ++ [(ns.length : Int)], m ≤ x) :
    nextUp ns k ns.length = m := by
  simp only [tn0, tn1, tn2, dvi] at h1 h2
  have hm : m ≤ ns.length := h2 _ (List.mem_append.mpr (Or.inr (List.mem_singleton.mpr rfl)))
  refine nextUp_uniq (Nat.le_refl _) ?_ (fun j h3 h4 e => ?_) hm
  · rcases List.mem_append.mp h1 with e | e
    · obtain ⟨j, hj, rfl⟩ := List.mem_map.mp e
      obtain ⟨hj1, hj2⟩ := List.mem_filter.mp hj
      have := List.mem_range.mp hj1
      exact Or.inr ⟨k + 1 + j, by omega, by omega, by omega, of_decide_eq_true hj2⟩
    · exact Or.inl (List.mem_singleton.mp e)
  · have h := h2 (0 + (k : Int) + 1 + ((j - (k + 1) : Nat) : Int)) (List.mem_append.mpr (Or.inl (List.mem_map.mpr ⟨j - (k + 1), List.mem_filter.mpr ⟨List.mem_range.mpr (by omega), decide_eq_true (by rw [show k + 1 + (j - (k + 1)) = j by omega]; exact e)⟩, rfl⟩)))
    omega
theorem same_dec {ns ms : List Int} (hl : (ns.length : Int) = (ms.length : Int)) :
    decide ((((List.range (ms.length : Int).toNat).filter fun j : Nat => !decide (V.int (ns.getD ((0 : Int) + (j : Int)).toNat 0) = V.int (ms.getD ((0 : Int) + (j : Int)).toNat 0))).map fun j : Nat => (0 : Int) + (j : Int)) = []) = decide (ns = ms) := by
  simp only [tn0, dvi, Int.toNat_natCast]
  refine decide_eq_decide.mpr ⟨fun h => ?_, fun h => ?_⟩
  · refine ext_getD (by omega) (fun i hi => ?_)
    have h2 := List.filter_eq_nil_iff.mp (List.map_eq_nil_iff.mp h) i (List.mem_range.mpr (by omega))
    simpa using h2
  · subst h
    simp
end Ur

namespace Ur
open PySem L2
/-! ### told lists that are held, each with what is due -/
/-- a pair of lists of the same ints, none of them the list that holds -/
structure PairOk (h : Addr) (H : Hp) (p : Addr) : Prop where
  off : p ≠ h
  both : ∃ (a b : Addr) (ns : List Int), a ≠ h ∧ b ≠ h ∧ H p = some (.lst [.ref a, .ref b]) ∧ H a = some (.lst (ns.map V.int)) ∧ H b = some (.lst (ns.map V.int))
/-- the list that holds at most n pairs -/
structure HeldOk (h : Addr) (H : Hp) (n : Nat) : Prop where
  all : ∃ ps : List Addr, H h = some (.lst (ps.map V.ref)) ∧ ps.length ≤ n ∧ ∀ p ∈ ps, PairOk h H p
theorem PairOk.step {h p : Addr} {H H' : Hp} (k : PairOk h H p) (b : But h H H') : PairOk h H' p := by
  obtain ⟨x, y, ns, hx, hy, e, e1, e2⟩ := k.both
  exact ⟨k.off, x, y, ns, hx, hy, b _ _ k.off e, b _ _ hx e1, b _ _ hy e2⟩
theorem Same.but {h : Addr} {H H' : Hp} (s : Same H H') : But h H H' := fun b o _ e => s b o e
theorem HeldOk.same {h : Addr} {H H' : Hp} {n : Nat} (k : HeldOk h H n) (s : Same H H') : HeldOk h H' n := by
  obtain ⟨ps, e, l, f⟩ := k.all
  exact ⟨ps, s _ _ e, l, fun p hp => (f p hp).step (Same.but s)⟩
theorem HeldOk.mono {h : Addr} {H : Hp} {n m : Nat} (k : HeldOk h H n) (l : n ≤ m) : HeldOk h H m := by
  obtain ⟨ps, e, q, f⟩ := k.all
  exact ⟨ps, e, Nat.le_trans q l, f⟩
/-- .. with more pairs behind -/
theorem HeldOk.grow {h : Addr} {H H' : Hp} {m : Nat} {ps qs : List Addr} (e : H h = some (.lst (ps.map V.ref))) (l : ps.length + qs.length ≤ m) (f : ∀ p ∈ ps, PairOk h H p) (b : But h H H') (e' : H' h = some (.lst ((ps ++ qs).map V.ref))) (g : ∀ p ∈ qs, PairOk h H' p) : HeldOk h H' m :=
  ⟨ps ++ qs, e', by rw [List.length_append]; exact l, fun p hp => by
    rcases List.mem_append.mp hp with k | k
    · exact (f p k).step b
    · exact g p k⟩
theorem HeldOk.new {h : Addr} {H : Hp} (e : H h = some (.lst [])) : HeldOk h H 0 := ⟨[], e, Nat.le_refl 0, fun p hp => nomatch hp⟩
end Ur

namespace Ur
open PySem L2
/-- over the cells, each with its place: what is new in H1 stays as the loop goes on -/
theorem for_cells {K : PySem.W.Frag} {H0 H1 : Hp} {cs : List Int} {p : Addr} {ts : List Addr} {i j : Nat} {tb : TS} {D : Ends} {σ : L2.St} (N : UrE.NewPairs H0 (UrE.enumC (cs.map V.int)) p ts H1)
    (Pv : Nat → L2.St → Hp → Prop) (h0 : Pv 0 σ H1) (hb : ∀ n σ H, Pv n σ H → ∀ b o, H0 b = none → H1 b = some o → H b = some o)
    (hs : ∀ n c σ H, cs[n]? = some c → Pv n σ H → tb { D with nx := Pv (n + 1), ct := Pv (n + 1), bk := D.nx } ((σ.set i (some (.int (n : Nat)))).set j (some (.int c))) H) (hd : ∀ σ H, Pv cs.length σ H → D.nx σ H) :
    ∃ W : Nat → Nat → L2.St → Hp → Prop, (∃ m, W 0 m σ H1) ∧ ∀ k m σ H, W k m σ H →
      ((Itl K p).stop k H ∧ D.nx σ H) ∨ ((Itl K p).go k H ∧ ∃ N : L2.St → Hp → Prop, (∀ σ' H', N σ' H' → ∃ m', m' < m ∧ W (k + 1) m' σ' H') ∧ ∀ x H', (Itl K p).yld k H x H' → gTup K 2 (gCons (gName i) (gCons (gName j) gNil)) x σ H' fun σ2 H2 => tb { D with nx := N, ct := N, bk := D.nx } σ2 H2) := by
  obtain ⟨n1, n2, n3, n4, n5, n6, n7, n8⟩ := N
  have hl : ts.length = cs.length := by rw [n6, UrE.enumC_len, List.length_map]
  refine for_list (xs := ts.map V.ref) Pv h0 (fun k σ H hk q => .of (hb k σ H q p _ n2 n7)) (fun k x σ H hx q => ?_) (fun σ H q => hd σ H (by rw [List.length_map, hl] at q; exact q))
  rw [List.getElem?_map] at hx
  cases ht : ts[k]? with
  | none => rw [ht] at hx; cases hx
  | some t =>
    rw [ht] at hx
    cases hx
    have hk : k < cs.length := by rw [← hl]; exact (List.getElem?_eq_some_iff.mp ht).1
    have hc : cs[k]? = some cs[k] := List.getElem?_eq_getElem hk
    have he : (UrE.enumC (cs.map V.int))[k]? = some [.int (k : Nat), .int cs[k]] := by rw [UrE.enumC_get, List.getElem?_map, hc]; rfl
    obtain ⟨t', e1, e2⟩ := n8 k _ he
    rw [ht] at e1
    cases e1
    have hn : H0 t = none := n3 t (List.mem_of_getElem? ht)
    exact ⟨t, _, rfl, .of (hb k σ H q t _ hn e2), rfl, _, _, rfl, _, _, rfl, rfl, hs k _ σ H hc q⟩
end Ur
namespace Ur
open PySem L2
theorem sql_fresh {K : PySem.W.Frag} {H0 H : Hp} {a h : Addr} {o : HO} {xs : List V} (nh : H0 h = none) (b : But h (upd H0 h o) H) (q : SqL K H0 a xs) : SqL K H a xs := by
  have st : ∀ (x : Addr) (u : HO), H0 x = some u → H x = some u := fun x u e => by
    have ne : x ≠ h := fun k => by rw [k, nh] at e; cases e
    exact b x u ne (by rw [upd_ne ne]; exact e)
  rcases q with (q | ⟨o, q⟩) | q
  · exact .inl (.inl (st _ _ q))
  · exact .inl (.inr ⟨o, st _ _ q⟩)
  · exact .inr q
end Ur

namespace Ur
open PySem L2
/-! ### unlike ints of a list -/
/-- the unlike ones, in the order in which they come -/
def uni (ns : List Int) : List Int := ns.foldl PyProof.Rows.step_dedup []
/-- how many -/
def ulen (ns : List Int) : Nat := (uni ns).length
theorem uni_snoc_any (ns : List Int) (x : Int) : uni (ns ++ [x]) = if (uni ns).any (· == x) = true then uni ns else uni ns ++ [x] := by
  unfold uni
  rw [List.foldl_append]
  rfl
theorem rev_ind {P : List Int → Prop} (h0 : P []) (hs : ∀ ns x, P ns → P (ns ++ [x])) (ns : List Int) : P ns := by
  have k : ∀ l : List Int, P l.reverse := by
    intro l
    induction l with
    | nil => exact h0
    | cons x l ih => rw [List.reverse_cons]; exact hs _ _ ih
  have := k ns.reverse
  rwa [List.reverse_reverse] at this
theorem mem_uni (ns : List Int) : ∀ x, x ∈ uni ns ↔ x ∈ ns := by
  refine rev_ind (P := fun ns => ∀ x, x ∈ uni ns ↔ x ∈ ns) (fun x => by simp [uni]) (fun ns y ih x => ?_) ns
  rw [uni_snoc_any]
  by_cases h : (uni ns).any (· == y) = true
  · rw [if_pos h, ih, List.mem_append]
    obtain ⟨z, hz, e⟩ := List.any_eq_true.mp h
    have e2 : z = y := eq_of_beq e
    rw [e2] at hz
    constructor
    · exact fun k => Or.inl k
    · rintro (k | k)
      · exact k
      · rw [List.mem_singleton.mp k]; exact (ih y).mp hz
  · rw [if_neg h, List.mem_append, List.mem_append, ih]
theorem uni_snoc (ns : List Int) (x : Int) : uni (ns ++ [x]) = if x ∈ ns then uni ns else uni ns ++ [x] := by
  rw [uni_snoc_any]
  by_cases h : x ∈ ns
  · have k : (uni ns).any (· == x) = true := List.any_eq_true.mpr ⟨x, (mem_uni ns x).mpr h, beq_self_eq_true x⟩
    rw [if_pos h, if_pos k]
  · rw [if_neg h, if_neg]
    intro k
    obtain ⟨z, hz, e⟩ := List.any_eq_true.mp k
    have e2 : z = x := eq_of_beq e
    exact h (e2 ▸ (mem_uni ns z).mp hz)
theorem ulen_snoc (ns : List Int) (x : Int) : ulen (ns ++ [x]) = if x ∈ ns then ulen ns else ulen ns + 1 := by
  unfold ulen
  rw [uni_snoc]
  by_cases h : x ∈ ns
  · rw [if_pos h, if_pos h]
  · rw [if_neg h, if_neg h, List.length_append]; rfl
theorem ulen_le (ns : List Int) : ulen ns ≤ ns.length := by
  refine rev_ind (P := fun ns => ulen ns ≤ ns.length) (Nat.le_refl 0) (fun ns x ih => ?_) ns
  rw [ulen_snoc, List.length_append]
  have : [x].length = 1 := rfl
  split <;> omega
theorem uni_nodup (ns : List Int) : (uni ns).Nodup := by
  refine rev_ind (P := fun ns => (uni ns).Nodup) List.nodup_nil (fun ns x ih => ?_) ns
  rw [uni_snoc]
  by_cases h : x ∈ ns
  · rw [if_pos h]; exact ih
  · rw [if_neg h, List.nodup_append]
    refine ⟨ih, List.nodup_cons.mpr ⟨by simp, List.nodup_nil⟩, fun a ha b hb e => ?_⟩
    rw [List.mem_singleton.mp hb] at e
    exact h (e ▸ (mem_uni ns a).mp ha)
theorem map_getD (ns : List Int) : (List.range ns.length).map (fun i => ns.getD i 0) = ns := by
  refine List.ext_getElem (by simp) fun i h1 h2 => ?_
  rw [List.getElem_map, List.getElem_range, List.getD_eq_getElem?_getD, List.getElem?_eq_getElem h2]
  rfl
theorem firstMet_uni (ns : List Int) : PyProof.Rows.firstMet (fun i => ns.getD i 0) ns.length = uni ns := by
  unfold PyProof.Rows.firstMet uni
  rw [map_getD]
/-! ### len(set(xs)) -/
def tLenSetU (K : PySem.W.Frag) (ta : TE) : TE := fun σ H Q => ta σ H fun x H1 => ∃ (l : Addr) (ns : List Int), x = .ref l ∧ SqL K H1 l (ns.map V.int) ∧ ns.length ≤ 4000 ∧ Q (.int (ulen ns : Nat)) H1
open PySem.Spec PyProof.Rows in
theorem pe_lenSetU {X : Cx} {K : PySem.W.Frag} {a : Expr} {ta : TE} {p p2 q pos : Pos} (hk : X.K = K) (hg : Gl X "len") (hm : X.mg "len" = none) (hg2 : Gl X "set") (hm2 : X.mg "set" = none) (ha : PE X a ta) (hc : X.calm = true := by rfl)
    (na : starEach [a] X.env = (false, eval a X.env) :: starEach [] X.env := by rfl) : PE X (.Call (.Name "len" p) [.Call (.Name "set" p2) [a] [] q] [] pos) (tLenSetU K ta) := by
  subst hk
  refine ⟨fun pins s σ H Q I h => ?_⟩
  refine Call_ (ld_blt I hg hm boot_len ?_)
  refine PyProof.Rows.callWith_builtin1 (PyProof.Rows.args_cons ?_ rfl) rfl rfl
  refine Call_ (ld_blt I hg2 hm2 boot_set ?_)
  refine PyProof.Rows.callWith_type1 (PyProof.Rows.args_cons (thn (ha.run pins s σ H _ I h) fun v s1 ⟨x, H1, I1, r1, q1⟩ => PyProof.Rows.args_nil ?_) na) na rfl
  obtain ⟨l, ns, rfl, hq, hl, q1⟩ := q1
  cases r1
  obtain ⟨its, r, pl, hz⟩ := I1.list hq
  have hlen : its.toArray.size = ns.length := by rw [List.size_toArray, ← r.length, List.length_map]
  refine call_set_list (I1.ok.hd hc) pl.isList (by simpa using RZ.intsAre_vals r) (by rw [hlen]; unfold scanBound; omega) fun h' tk hS hk => ?_
  refine PyProof.Rows.args_nil ?_
  rw [hlen, firstMet_uni] at hS
  obtain ⟨o, es, ep, t, ho, hex, hd, _, _, _, hf, hn⟩ := hS
  have I2 : Inv X pins σ H1 { s1 with heap := h', toks := tk } := I1.kept fun b o e => hk b o (Heap.lt_size e) e
  exact call_len_set ho hex hd hf (by rw [hn]; have := ulen_le ns; unfold ulen at this; omega) ⟨.int (ulen ns : Nat), H1, I2.tok _, ⟨_, by rw [hn]; rfl⟩, q1⟩
end Ur

namespace Ur
open PySem L2
/-! ### plain rows -/
/-- how many unlike ones stand ahead of the place at which x stands first -/
def plainAt (ns : List Int) (x : Int) : Nat := ulen (ns.take (ns.idxOf x))
def plainP (ns : List Int) : List Int := ns.map fun x => (plainAt ns x : Int)
theorem plainP_len (ns : List Int) : (plainP ns).length = ns.length := by simp [plainP]
theorem take_snoc {ns : List Int} {i : Nat} {x : Int} (h : ns[i]? = some x) : ns.take (i + 1) = ns.take i ++ [x] := by
  rw [List.take_add_one, h]; rfl
theorem idx_first {ns : List Int} {i : Nat} {x : Int} (h : ns[i]? = some x) (n : x ∉ ns.take i) : ns.idxOf x = i := by
  obtain ⟨hi, e⟩ := List.getElem?_eq_some_iff.mp h
  have e2 : ns = ns.take i ++ ns.drop i := (List.take_append_drop i ns).symm
  have e3 : ns.drop i = x :: ns.drop (i + 1) := by rw [List.drop_eq_getElem_cons hi, e]
  have hl : (ns.take i).length = i := by rw [List.length_take]; omega
  have e4 : (ns.take i ++ ns.drop i).idxOf x = i := by
    rw [List.idxOf_append, if_neg n, e3, List.idxOf_cons_self, hl]; omega
  rwa [← e2] at e4
theorem idx_lt {ns : List Int} {x : Int} (h : x ∈ ns) : ns.idxOf x < ns.length := List.idxOf_lt_length_of_mem h
theorem idx_get {ns : List Int} {x : Int} (h : x ∈ ns) : ns[ns.idxOf x]? = some x := by
  rw [List.getElem?_eq_getElem (idx_lt h), List.getElem_idxOf]
theorem idx_not {ns : List Int} {x : Int} : x ∉ ns.take (ns.idxOf x) := fun k => by
  obtain ⟨j, hj, e⟩ := List.getElem_of_mem k
  rw [List.getElem_take] at e
  have h1 : j < ns.idxOf x := by rw [List.length_take] at hj; omega
  have h2 := List.not_of_lt_findIdx (p := (· == x)) (xs := ns) h1
  simp [e] at h2
theorem putK_len {kvs : List (Key × V)} {k : Key} {v : V} (h : valV kvs k = none) : (putK kvs k v).length = kvs.length + 1 := by
  have e : (kvs.any fun kv => decide (kv.1 = k)) = false := by
    cases q : (kvs.any fun kv => decide (kv.1 = k)) with
    | false => rfl
    | true =>
      obtain ⟨p, hp, e⟩ := List.any_eq_true.mp q
      unfold valV at h
      rw [Option.map_eq_none_iff, List.find?_eq_none] at h
      exact absurd e (h p hp)
  unfold putK
  rw [e, if_neg Bool.false_ne_true, List.length_append]
  rfl
theorem ulen_mono {ns : List Int} : ∀ {j i : Nat}, i ≤ j → ulen (ns.take i) ≤ ulen (ns.take j)
  | 0, i, h => by rw [Nat.le_zero.mp h]; exact Nat.le_refl _
  | j + 1, i, h => by
    rcases Nat.lt_or_eq_of_le h with h | rfl
    · refine Nat.le_trans (ulen_mono (Nat.le_of_lt_succ h)) ?_
      cases e : ns[j]? with
      | none => rw [List.take_add_one, e]; simp
      | some x => rw [take_snoc e, ulen_snoc]; split <;> omega
    · exact Nat.le_refl _
theorem plainAt_lt {ns : List Int} {x y : Int} (hx : x ∈ ns) (h : ns.idxOf x < ns.idxOf y) : plainAt ns x < plainAt ns y := by
  unfold plainAt
  have h1 : ulen (ns.take (ns.idxOf x + 1)) = ulen (ns.take (ns.idxOf x)) + 1 := by
    rw [take_snoc (idx_get hx), ulen_snoc, if_neg idx_not]
  have h2 := ulen_mono (ns := ns) (show ns.idxOf x + 1 ≤ ns.idxOf y from h)
  omega
theorem plainAt_inj {ns : List Int} {x y : Int} (hx : x ∈ ns) (hy : y ∈ ns) (h : plainAt ns x = plainAt ns y) : x = y := by
  rcases Nat.lt_trichotomy (ns.idxOf x) (ns.idxOf y) with k | k | k
  · exact absurd (plainAt_lt hx k) (by omega)
  · have e := idx_get hx
    rw [k, idx_get hy] at e
    exact (Option.some.inj e).symm
  · exact absurd (plainAt_lt hy k) (by omega)
/-- f calls the numbers of ns otherwise, one for one -/
def InjOn (f : Int → Int) (ns : List Int) : Prop := ∀ x ∈ ns, ∀ y ∈ ns, f x = f y → x = y
theorem mem_map_inj {f : Int → Int} {ns ms : List Int} {x : Int} (h : InjOn f ns) (hx : x ∈ ns) (hs : ∀ y ∈ ms, y ∈ ns) : f x ∈ ms.map f ↔ x ∈ ms := by
  constructor
  · intro k
    obtain ⟨y, hy, e⟩ := List.mem_map.mp k
    exact h y (hs y hy) x hx e ▸ hy
  · exact fun k => List.mem_map.mpr ⟨x, k, rfl⟩
theorem ulen_map {f : Int → Int} {ns : List Int} (h : InjOn f ns) : ulen (ns.map f) = ulen ns := by
  have k : ∀ ms : List Int, (∀ y ∈ ms, y ∈ ns) → ulen (ms.map f) = ulen ms := fun ms => by
    refine rev_ind (P := fun ms => (∀ y ∈ ms, y ∈ ns) → ulen (ms.map f) = ulen ms) (fun _ => rfl) (fun ms x ih hs => ?_) ms
    have hs' : ∀ y ∈ ms, y ∈ ns := fun y hy => hs y (List.mem_append.mpr (Or.inl hy))
    have hx : x ∈ ns := hs x (List.mem_append.mpr (Or.inr (List.mem_singleton.mpr rfl)))
    have e := mem_map_inj h hx hs'
    rw [List.map_append, List.map_cons, List.map_nil, ulen_snoc, ulen_snoc, ih hs']
    by_cases q : x ∈ ms
    · rw [if_pos q, if_pos (e.mpr q)]
    · rw [if_neg q, if_neg (fun z => q (e.mp z))]
  exact k ns fun _ z => z
theorem InjOn.take {f : Int → Int} {ns : List Int} (h : InjOn f ns) (i : Nat) : InjOn f (ns.take i) := fun x hx y hy e => h x (List.mem_of_mem_take hx) y (List.mem_of_mem_take hy) e
theorem idx_map {f : Int → Int} {ns : List Int} {x : Int} (h : InjOn f ns) (hx : x ∈ ns) : (ns.map f).idxOf (f x) = ns.idxOf x := by
  refine idx_first ?_ ?_
  · rw [List.getElem?_map, idx_get hx]; rfl
  · rw [← List.map_take]
    exact fun k => idx_not ((mem_map_inj h hx (fun y hy => List.mem_of_mem_take hy)).mp k)
theorem plainP_map {f : Int → Int} {ns : List Int} (h : InjOn f ns) : plainP (ns.map f) = plainP ns := by
  unfold plainP
  rw [List.map_map]
  refine List.map_congr_left fun x hx => ?_
  show ((plainAt (ns.map f) (f x) : Nat) : Int) = (plainAt ns x : Nat)
  unfold plainAt
  rw [idx_map h hx, ← List.map_take, ulen_map (h.take _)]
theorem plainP_own (ns : List Int) : plainP (plainP ns) = plainP ns :=
  plainP_map (f := fun x => (plainAt ns x : Int)) fun x hx y hy e => plainAt_inj hx hy (by have e2 : ((plainAt ns x : Nat) : Int) = (plainAt ns y : Nat) := e; omega)
/-! ### their rules -/
theorem setd_int {H : Hp} {a : Addr} {kvs : List (Key × V)} {n : Int} {z : V} {Q : VK} (h : H a = some (.dK kvs))
    (q : kvs.length < sizeLine ∧ (∀ v, valV kvs (Sum.inl n) = some v → Q v H) ∧ (valV kvs (Sum.inl n) = none → Q z (upd H a (.dK (putK kvs (Sum.inl n) z))))) :
    ∃ (kvs : List (Key × V)) (k : Key), H a = some (.dK kvs) ∧ V.int n = kV k ∧ kvs.length < sizeLine ∧ (∀ v, valV kvs k = some v → Q v H) ∧ (valV kvs k = none → Q z (upd H a (.dK (putK kvs k z)))) :=
  ⟨kvs, Sum.inl n, h, rfl, q.1, q.2.1, q.2.2⟩
theorem index_int {K : PySem.W.Frag} {H : Hp} {a : Addr} {ns : List Int} {x : Int} {Q : VK} (h : SqL K H a (ns.map V.int)) (q : x ∈ ns ∧ Q (.int (ns.idxOf x : Nat)) H) : rIndex K (.ref a) [.int x] H Q := by
  refine ⟨a, ns.map V.int, .int x, ns.idxOf x, .int x, rfl, rfl, h, rfl, ?_, ?_, ?_, ?_, q.2⟩
  · rw [List.all_map]
    exact List.all_eq_true.mpr fun _ _ => rfl
  · rw [List.getElem?_map, idx_get q.1]; rfl
  · show (x == x) = true
    exact beq_self_eq_true x
  · intro m z' hm hz
    obtain ⟨n, hn, rfl⟩ := iv_get hz
    have ne : ¬ n = x := fun e => by
      rw [e] at hn
      refine idx_not (ns := ns) (x := x) (List.mem_of_getElem? (i := m) ?_)
      rw [List.getElem?_take, if_pos hm, hn]
    show (n == x) = false
    exact beq_eq_false_iff_ne.mpr ne
end Ur

namespace Ur
open PySem L2
theorem ps_never {X : Cx} {st : Stmt} : PS X st (fun _ _ _ => False) := ⟨fun _ _ _ _ _ _ h => h.elim⟩
theorem putF_le (k : Str) (v : V) : ∀ fs : List (Str × V), (putF k v fs).length ≤ fs.length + 1
  | [] => Nat.le_refl 1
  | (k', v') :: r => by
    unfold putF
    split
    · exact Nat.le_succ _
    · exact Nat.succ_le_succ (putF_le k v r)
theorem pf1 {k : Str} {v : V} : (putF k v []).length < 1000 := Nat.lt_of_le_of_lt (putF_le _ _ _) (by decide)
theorem pf2 {k k2 : Str} {v v2 : V} : (putF k v (putF k2 v2 [])).length < 1000 := Nat.lt_of_le_of_lt (putF_le _ _ _) (Nat.lt_of_le_of_lt (Nat.succ_le_succ (putF_le _ _ _)) (by decide))
theorem pf3 {k k2 k3 : Str} {v v2 v3 : V} : (putF k v (putF k2 v2 (putF k3 v3 []))).length < 1000 := Nat.lt_of_le_of_lt (putF_le _ _ _) (Nat.lt_of_le_of_lt (Nat.succ_le_succ (putF_le _ _ _)) (Nat.lt_of_le_of_lt (Nat.succ_le_succ (Nat.succ_le_succ (putF_le _ _ _))) (by decide)))
/-! ### a row made ready -/
def rdyF (n : Int) (la na : Addr) : List (Str × V) := putF "nexts" (.ref na) (putF "lasts" (.ref la) (putF "many" (.int n) []))
theorem rdy_many {n : Int} {la na : Addr} : (rdyF n la na).lookup ("many" : Str) = some (.int n) := by
  unfold rdyF
  rw [lookup_putF, if_neg (by decide), lookup_putF, if_neg (by decide), lookup_putF, if_pos rfl]
theorem rdy_lasts {n : Int} {la na : Addr} : (rdyF n la na).lookup ("lasts" : Str) = some (.ref la) := by
  unfold rdyF
  rw [lookup_putF, if_neg (by decide), lookup_putF, if_pos rfl]
theorem rdy_nexts {n : Int} {la na : Addr} : (rdyF n la na).lookup ("nexts" : Str) = some (.ref na) := by
  unfold rdyF
  rw [lookup_putF, if_pos rfl]
theorem rdy_no {n : Int} {la na : Addr} {m : Str} (h1 : ¬ m = "many") (h2 : ¬ m = "lasts") (h3 : ¬ m = "nexts") : (rdyF n la na).lookup m = none := by
  unfold rdyF
  rw [lookup_putF, if_neg h3, lookup_putF, if_neg h2, lookup_putF, if_neg h1]
  rfl
/-- at o a row made ready; its parts are none of L -/
structure Rdy (C : Addr) (L : Addr → Prop) (H : Hp) (o : Addr) (ns : List Int) : Prop where
  all : ∃ dx la na : Addr, H o = some (.ins C dx (rdyF ns.length la na)) ∧ H la = some (.lst ((lastP ns).map V.int)) ∧ H na = some (.lst ((nextP ns).map V.int)) ∧ ∀ b, L b → o ≠ b ∧ la ≠ b ∧ na ≠ b
theorem Rdy.same {C : Addr} {L : Addr → Prop} {H H' : Hp} {o : Addr} {ns : List Int} (r : Rdy C L H o ns) (s : Same H H') : Rdy C L H' o ns := by
  obtain ⟨dx, la, na, e1, e2, e3, f⟩ := r.all
  exact ⟨dx, la, na, s _ _ e1, s _ _ e2, s _ _ e3, f⟩
theorem Rdy.but {C : Addr} {L : Addr → Prop} {H H' : Hp} {o b : Addr} {ns : List Int} (r : Rdy C L H o ns) (l : L b) (s : But b H H') : Rdy C L H' o ns := by
  obtain ⟨dx, la, na, e1, e2, e3, f⟩ := r.all
  obtain ⟨f1, f2, f3⟩ := f b l
  exact ⟨dx, la, na, s _ _ f1 e1, s _ _ f2 e2, s _ _ f3 e3, f⟩
theorem Rdy.sub {C : Addr} {L L' : Addr → Prop} {H : Hp} {o : Addr} {ns : List Int} (r : Rdy C L H o ns) (l : ∀ b, L' b → L b) : Rdy C L' H o ns := by
  obtain ⟨dx, la, na, e1, e2, e3, f⟩ := r.all
  exact ⟨dx, la, na, e1, e2, e3, fun b k => f b (l b k)⟩
/-! ### windows -/
/-- the numbers of a window -/
def win (ns : List Int) (f b : Int) : List Int := (ns.drop f.toNat).take (b.toNat - f.toNat)
/-- how many unlike ones -/
def wun (ns : List Int) (f b : Int) : Nat := ulen (win ns f b)
theorem win_len {ns : List Int} {f b : Int} (h0 : 0 ≤ f) (h1 : f ≤ b) (h2 : b ≤ ns.length) : (win ns f b).length = (b - f).toNat := by
  unfold win
  rw [List.length_take, List.length_drop]
  omega
theorem mem_win {ns : List Int} {f k : Nat} {x : Int} : x ∈ (ns.drop f).take k ↔ ∃ j, f ≤ j ∧ j < f + k ∧ ns[j]? = some x := by
  constructor
  · intro h
    obtain ⟨j, hj⟩ := List.mem_iff_getElem?.mp h
    rw [List.getElem?_take] at hj
    by_cases hk : j < k
    · rw [if_pos hk, List.getElem?_drop] at hj
      exact ⟨f + j, by omega, by omega, hj⟩
    · rw [if_neg hk] at hj; cases hj
  · rintro ⟨j, h1, h2, e⟩
    refine List.mem_iff_getElem?.mpr ⟨j - f, ?_⟩
    rw [List.getElem?_take, if_pos (by omega), List.getElem?_drop, show f + (j - f) = j from by omega]
    exact e
theorem last_in {ns : List Int} {f k : Nat} (h : f + k < ns.length) : (ns.getD (f + k) 0 ∈ (ns.drop f).take k) ↔ ¬ lastAt ns (f + k) (ns.getD (f + k) 0) < (f : Int) := by
  rw [mem_win]
  rcases lastAt_spec ns (ns.getD (f + k) 0) (f + k) with ⟨e, n⟩ | ⟨v, e, h1, h2, n⟩
  · constructor
    · rintro ⟨j, h1, h2, e2⟩
      exact absurd (getD_of e2) (n j h2)
    · intro hn
      omega
  · constructor
    · rintro ⟨j, h3, h4, e2⟩ hlt
      rw [e] at hlt
      exact absurd (getD_of e2) (n j (by omega) h4)
    · intro hn
      refine ⟨v, by omega, h1, ?_⟩
      rw [get_of (by omega), h2]
/-- .. by the last places -/
theorem ulen_win {ns : List Int} {f : Nat} : ∀ k : Nat, f + k ≤ ns.length → ulen ((ns.drop f).take k) = ((((lastP ns).drop f).take k).filter (fun x => decide (x < (f : Int)))).length
  | 0, _ => by rw [List.take_zero, List.take_zero]; rfl
  | k + 1, h => by
    have hk : f + k < ns.length := h
    have e1 : (ns.drop f)[k]? = some (ns.getD (f + k) 0) := by rw [List.getElem?_drop]; exact get_of hk
    have e2 : ((lastP ns).drop f)[k]? = some (lastAt ns (f + k) (ns.getD (f + k) 0)) := by rw [List.getElem?_drop]; exact lastP_get hk
    rw [take_snoc e1, take_snoc e2, ulen_snoc, List.filter_append, List.length_append, ulen_win k (by omega)]
    have q := last_in hk
    by_cases hl : lastAt ns (f + k) (ns.getD (f + k) 0) < (f : Int)
    · rw [if_neg (fun z => q.mp z hl), List.filter_cons_of_pos (by exact decide_eq_true hl)]
      rfl
    · rw [if_pos (q.mpr hl), List.filter_cons_of_neg (by rw [decide_eq_false hl]; exact Bool.false_ne_true)]
      rfl
theorem wun_lasts {ns : List Int} {f b : Int} (h0 : 0 ≤ f) (h1 : f ≤ b) (h2 : b ≤ ns.length) : ((((lastP ns).drop f.toNat).take (b.toNat - f.toNat)).filter (fun x => decide (x < f))).length = wun ns f b := by
  have e := ulen_win (ns := ns) (f := f.toNat) (b.toNat - f.toNat) (by omega)
  rw [Int.toNat_of_nonneg h0] at e
  exact e.symm
end Ur

namespace Ur
open PySem L2
/-! ### sums -/
def sumTo (F : Nat → Int) : Nat → Int
  | 0 => 0
  | k + 1 => sumTo F k + F k
theorem sum_snoc (xs : List Int) (x : Int) : (xs ++ [x]).sum = xs.sum + x := by
  rw [List.sum_append]; simp
theorem sum_range (F : Nat → Int) : ∀ n : Nat, ((List.range n).map F).sum = sumTo F n
  | 0 => rfl
  | n + 1 => by rw [List.range_succ, List.map_append, List.map_cons, List.map_nil, sum_snoc, sum_range F n]; rfl
theorem sum_filter (t : Nat → Bool) (F : Nat → Int) : ∀ n : Nat, (((List.range n).filter t).map F).sum = sumTo (fun k => if t k = true then F k else 0) n
  | 0 => rfl
  | n + 1 => by
    rw [List.range_succ, List.filter_append, List.map_append, List.sum_append, sum_filter t F n]
    show _ = _ + (if t n = true then F n else 0)
    cases h : t n with
    | true => rw [List.filter_cons_of_pos h]; simp
    | false => rw [List.filter_cons_of_neg (by rw [h]; exact Bool.false_ne_true)]; simp
theorem sumTo_congr {F G : Nat → Int} : ∀ {n : Nat}, (∀ k, k < n → F k = G k) → sumTo F n = sumTo G n
  | 0, _ => rfl
  | n + 1, h => by
    show sumTo F n + F n = sumTo G n + G n
    rw [sumTo_congr (fun k hk => h k (Nat.lt_succ_of_lt hk)), h n (Nat.lt_succ_self n)]
theorem sumTo_add (F G : Nat → Int) : ∀ n : Nat, sumTo (fun k => F k + G k) n = sumTo F n + sumTo G n
  | 0 => rfl
  | n + 1 => by
    show sumTo (fun k => F k + G k) n + (F n + G n) = sumTo F n + F n + (sumTo G n + G n)
    rw [sumTo_add F G n]; omega
theorem sumTo_mul (F : Nat → Int) (c : Int) : ∀ n : Nat, sumTo (fun k => F k * c) n = sumTo F n * c
  | 0 => (Int.zero_mul c).symm
  | n + 1 => by
    show sumTo (fun k => F k * c) n + F n * c = (sumTo F n + F n) * c
    rw [sumTo_mul F c n, Int.add_mul]
theorem sumTo_zero : ∀ n : Nat, sumTo (fun _ => 0) n = 0
  | 0 => rfl
  | n + 1 => by show sumTo (fun _ => 0) n + 0 = 0; rw [sumTo_zero n]; rfl
theorem sumTo_swap (F : Nat → Nat → Int) (m : Nat) : ∀ n : Nat, sumTo (fun i => sumTo (fun j => F i j) m) n = sumTo (fun j => sumTo (fun i => F i j) n) m
  | 0 => (sumTo_zero m).symm
  | n + 1 => by
    show sumTo (fun i => sumTo (fun j => F i j) m) n + sumTo (fun j => F n j) m = sumTo (fun j => sumTo (fun i => F i j) n + F n j) m
    rw [sumTo_swap F m n, sumTo_add]
theorem sumTo_shift (F : Nat → Int) (f : Nat) : ∀ m : Nat, sumTo F (f + m) = sumTo F f + sumTo (fun k => F (f + k)) m
  | 0 => by show sumTo F f = sumTo F f + 0; omega
  | m + 1 => by
    show sumTo F (f + m) + F (f + m) = sumTo F f + (sumTo (fun k => F (f + k)) m + F (f + m))
    rw [sumTo_shift F f m]; omega
/-- how many k below n lie in [lo, hi) -/
theorem sumTo_count (lo hi : Int) (h0 : 0 ≤ lo) (h1 : lo ≤ hi) : ∀ n : Nat, hi ≤ n → sumTo (fun k => if lo ≤ (k : Int) ∧ (k : Int) < hi then 1 else 0) n = hi - lo := by
  have key : ∀ n : Nat, sumTo (fun k => if lo ≤ (k : Int) ∧ (k : Int) < hi then 1 else 0) n = if (n : Int) ≤ lo then 0 else if (n : Int) ≤ hi then n - lo else hi - lo := by
    intro n
    induction n with
    | zero => rw [if_pos (by omega)]; rfl
    | succ n ih =>
      show sumTo _ n + (if lo ≤ (n : Int) ∧ (n : Int) < hi then 1 else 0) = _
      rw [ih]
      (repeat' split) <;> omega
  intro n hn
  rw [key]
  (repeat' split) <;> omega
/-! ### windows, counted -/
theorem ulen_congr {a b : List Int} (h : ∀ x, x ∈ a ↔ x ∈ b) : ulen a = ulen b := by
  have p : (uni a).Perm (uni b) := (List.perm_ext_iff_of_nodup (uni_nodup a) (uni_nodup b)).mpr fun x => by rw [mem_uni, mem_uni]; exact h x
  exact p.length_eq
theorem ulen_cons (x : Int) (ns : List Int) : ulen (x :: ns) = if x ∈ ns then ulen ns else ulen ns + 1 := by
  rw [← ulen_snoc]
  exact ulen_congr fun y => by simp [or_comm]
/-- how many unlike ones stand from f on, ahead of b -/
def wunN (ns : List Int) (f b : Nat) : Nat := ulen ((ns.drop f).take (b - f))
theorem wun_N (ns : List Int) (f b : Int) : wun ns f b = wunN ns f.toNat b.toNat := rfl
theorem wunN_none (ns : List Int) (f : Nat) : wunN ns f f = 0 := by unfold wunN; rw [Nat.sub_self, List.take_zero]; rfl
theorem wunN_up {ns : List Int} {f b : Nat} (h : f ≤ b) (hb : b < ns.length) : wunN ns f (b + 1) = wunN ns f b + if lastAt ns b (ns.getD b 0) < (f : Int) then 1 else 0 := by
  unfold wunN
  have e : (ns.drop f)[b - f]? = some (ns.getD b 0) := by rw [List.getElem?_drop, show f + (b - f) = b from by omega]; exact get_of hb
  rw [show b + 1 - f = (b - f) + 1 from by omega, take_snoc e, ulen_snoc]
  have q := last_in (ns := ns) (f := f) (k := b - f) (by omega)
  rw [show f + (b - f) = b from by omega] at q
  by_cases hl : lastAt ns b (ns.getD b 0) < (f : Int)
  · rw [if_pos hl, if_neg (fun z => q.mp z hl)]
  · rw [if_neg hl, if_pos (q.mpr hl)]; rfl
theorem next_in {ns : List Int} {p b : Nat} (hp : p < b) (hb : b ≤ ns.length) : (ns.getD p 0 ∈ (ns.drop (p + 1)).take (b - (p + 1))) ↔ ¬ (b : Int) ≤ nextUp ns p ns.length := by
  rw [mem_win]
  rcases nextUp_spec ns p ns.length (Nat.le_refl _) with ⟨e, n⟩ | ⟨v, e, h1, h2, h3, n⟩
  · constructor
    · rintro ⟨j, h1, h2, e2⟩
      exact absurd (getD_of e2) (n j (by omega) (List.getElem?_eq_some_iff.mp e2).1)
    · intro hn; omega
  · constructor
    · rintro ⟨j, h4, h5, e2⟩ hlt
      rw [e] at hlt
      exact absurd (getD_of e2) (n j (by omega) (by omega))
    · intro hn
      refine ⟨v, by omega, by omega, ?_⟩
      rw [get_of h2, h3]
theorem wunN_down {ns : List Int} {p b : Nat} (hp : p < b) (hb : b ≤ ns.length) : wunN ns p b = wunN ns (p + 1) b + if (b : Int) ≤ nextUp ns p ns.length then 1 else 0 := by
  unfold wunN
  have hl : p < ns.length := by omega
  have e : (ns.drop p).take (b - p) = ns.getD p 0 :: (ns.drop (p + 1)).take (b - (p + 1)) := by
    have e1 : ns.drop p = ns.getD p 0 :: ns.drop (p + 1) := by
      rw [List.drop_eq_getElem_cons hl, List.getD_eq_getElem?_getD, List.getElem?_eq_getElem hl]
      rfl
    rw [e1, show b - p = (b - (p + 1)) + 1 from by omega]
    rfl
  rw [e, ulen_cons]
  have q := next_in hp hb
  by_cases hc : (b : Int) ≤ nextUp ns p ns.length
  · rw [if_pos hc, if_neg (fun z => q.mp z hc)]
  · rw [if_neg hc, if_pos (q.mpr hc)]; rfl
/-- .. by the last places -/
theorem wunN_lasts {ns : List Int} {f : Nat} : ∀ b : Nat, f ≤ b → b ≤ ns.length → (wunN ns f b : Int) = sumTo (fun p => if f ≤ p ∧ lastAt ns p (ns.getD p 0) < (f : Int) then 1 else 0) b := by
  intro b hb
  obtain ⟨k, rfl⟩ : ∃ k, b = f + k := ⟨b - f, by omega⟩
  clear hb
  induction k with
  | zero =>
    intro _
    rw [Nat.add_zero, wunN_none, sumTo_congr (G := fun _ => 0) (fun k hk => if_neg (fun z => by omega)), sumTo_zero]
    rfl
  | succ k ih =>
    intro h
    rw [show f + (k + 1) = (f + k) + 1 from rfl, wunN_up (by omega) (by omega)]
    show _ = sumTo _ (f + k) + (if f ≤ f + k ∧ lastAt ns (f + k) (ns.getD (f + k) 0) < (f : Int) then 1 else 0)
    rw [← ih (by omega)]
    by_cases hl : lastAt ns (f + k) (ns.getD (f + k) 0) < (f : Int)
    · rw [if_pos hl, if_pos ⟨by omega, hl⟩]; rfl
    · rw [if_neg hl, if_neg (fun z => hl z.2)]; rfl
/-- .. by the next places -/
theorem wunN_nexts {ns : List Int} {b : Nat} (hb : b ≤ ns.length) : ∀ k f : Nat, f + k = b → (wunN ns f b : Int) = sumTo (fun j => if (b : Int) ≤ nextUp ns (f + j) ns.length then 1 else 0) k
  | 0, f, h => by rw [show f = b from h, wunN_none]; rfl
  | k + 1, f, h => by
    rw [wunN_down (by omega) hb, Int.natCast_add, wunN_nexts hb k (f + 1) (by omega)]
    have e := sumTo_shift (fun j => if (b : Int) ≤ nextUp ns (f + j) ns.length then (1 : Int) else 0) 1 k
    rw [show k + 1 = 1 + k from by omega, e]
    have e2 : sumTo (fun j => if (b : Int) ≤ nextUp ns (f + j) ns.length then (1 : Int) else 0) 1 = if (b : Int) ≤ nextUp ns f ns.length then 1 else 0 := by
      show (0 : Int) + _ = _
      rw [Int.zero_add]; rfl
    rw [e2]
    have e3 : sumTo (fun k => if (b : Int) ≤ nextUp ns (f + (1 + k)) ns.length then (1 : Int) else 0) k = sumTo (fun j => if (b : Int) ≤ nextUp ns (f + 1 + j) ns.length then (1 : Int) else 0) k := sumTo_congr fun j _ => by rw [Nat.add_assoc]
    rw [e3]
    split <;> omega
end Ur

namespace Ur
open PySem L2
theorem qint {Q : VK} {H : Hp} {i j : Int} (h : Q (.int j) H) (e : i = j) : Q (.int i) H := e ▸ h
theorem qbv {Q : VK} {H : Hp} {i j : Bool} (h : Q (.bl j) H) (e : i = j) : Q (.bl i) H := e ▸ h
theorem qbl {Q : Bool → Hp → Prop} {H : Hp} {i j : Bool} (h : Q j H) (e : i = j) : Q i H := e ▸ h
/-- where the number at p stood last, stands next -/
def lp (ns : List Int) (p : Nat) : Int := lastAt ns p (ns.getD p 0)
def nx (ns : List Int) (p : Nat) : Int := nextUp ns p ns.length
theorem lp_range (ns : List Int) (p : Nat) : -1 ≤ lp ns p ∧ lp ns p < p := lastAt_range ns _ p
theorem lastP_getD {ns : List Int} {k : Nat} (h : k < ns.length) : (lastP ns).getD k 0 = lp ns k := getD_of (lastP_get h)
theorem nextP_getD {ns : List Int} {k : Nat} (h : k < ns.length) : (nextP ns).getD k 0 = nx ns k := getD_of (nextP_get h)
theorem wun_nat (ns : List Int) {x y : Int} {i j : Nat} (hx : x = i) (hy : y = j) : (wun ns x y : Int) = wunN ns i j := by
  subst hx hy
  rfl
theorem sumTo_cut (F : Nat → Int) {b n : Nat} (h : b ≤ n) : sumTo F b = sumTo (fun p => if p < b then F p else 0) n := by
  obtain ⟨m, rfl⟩ : ∃ m, n = b + m := ⟨n - b, by omega⟩
  rw [sumTo_shift, sumTo_congr (F := fun p => if p < b then F p else 0) (G := F) (fun k hk => if_pos hk), sumTo_congr (F := fun k => if b + k < b then F (b + k) else 0) (G := fun _ => 0) (fun k _ => if_neg (by omega)), sumTo_zero]
  omega
/-- Σ over k below n of c, where lo ≤ k < hi -/
theorem sumTo_some (c lo hi : Int) (h0 : 0 ≤ lo) (h1 : lo ≤ hi) {n : Nat} (hn : hi ≤ n) : sumTo (fun k => if lo ≤ (k : Int) ∧ (k : Int) < hi then c else 0) n = (hi - lo) * c := by
  rw [← sumTo_count lo hi h0 h1 n hn, ← sumTo_mul]
  exact sumTo_congr fun k _ => by split <;> simp
/-- the windows from i on, together -/
def herF (ns : List Int) (i : Nat) : Int := sumTo (fun p => if i ≤ p ∧ lp ns p < (i : Int) then (ns.length : Int) - p else 0) ns.length
theorem her_wins {ns : List Int} {i : Nat} (hi : i ≤ ns.length) : sumTo (fun k => (wunN ns i (i + k) : Int)) (ns.length + 1 - i) = herF ns i := by
  have e1 : sumTo (fun k => (wunN ns i (i + k) : Int)) (ns.length + 1 - i) = sumTo (fun k => sumTo (fun p => if p < i + k then (if i ≤ p ∧ lp ns p < (i : Int) then (1 : Int) else 0) else 0) ns.length) (ns.length + 1 - i) :=
    sumTo_congr fun k hk => by rw [wunN_lasts (i + k) (by omega) (by omega), sumTo_cut _ (show i + k ≤ ns.length by omega)]; rfl
  rw [e1, sumTo_swap]
  refine sumTo_congr fun p hp => ?_
  by_cases h : i ≤ p ∧ lp ns p < (i : Int)
  · rw [if_pos h]
    rw [sumTo_congr (G := fun k => if ((p + 1 - i : Nat) : Int) ≤ (k : Int) ∧ (k : Int) < ((ns.length + 1 - i : Nat) : Int) then 1 else 0) (fun k hk => ?_), sumTo_count _ _ (by omega) (by omega) _ (Int.le_refl _)]
    · omega
    · have := h.1
      by_cases q : p < i + k
      · rw [if_pos q, if_pos ⟨by omega, by omega⟩]
      · rw [if_neg q, if_neg (fun z => by omega)]
  · simp only [if_neg h]
    rw [sumTo_congr (G := fun _ => 0) (fun k _ => by simp), sumTo_zero]
theorem her_firsts {ns : List Int} {i : Nat} (hi : i ≤ ns.length) : sumTo (fun k => if decide (lp ns (i + k) < (i : Int)) = true then (ns.length : Int) - ((i + k : Nat) : Int) else 0) (ns.length - i) = herF ns i := by
  unfold herF
  have e := sumTo_shift (fun p => if i ≤ p ∧ lp ns p < (i : Int) then (ns.length : Int) - (p : Int) else 0) i (ns.length - i)
  rw [show i + (ns.length - i) = ns.length from by omega] at e
  rw [e, sumTo_congr (n := i) (G := fun _ => 0) (fun k hk => if_neg (fun z => by omega)), sumTo_zero, Int.zero_add]
  refine sumTo_congr fun k _ => ?_
  by_cases h : lp ns (i + k) < (i : Int)
  · rw [if_pos (decide_eq_true h), if_pos ⟨by omega, h⟩]
  · rw [if_neg (by rw [decide_eq_false h]; exact Bool.false_ne_true), if_neg (fun z => h z.2)]
theorem her_all (ns : List Int) : sumTo (herF ns) (ns.length + 1) = sumTo (fun p => ((p : Int) - lp ns p) * ((ns.length : Int) - p)) ns.length := by
  show sumTo (fun i => sumTo (fun p => if i ≤ p ∧ lp ns p < (i : Int) then (ns.length : Int) - p else 0) ns.length) (ns.length + 1) = _
  rw [sumTo_swap]
  refine sumTo_congr fun p hp => ?_
  have hr := lp_range ns p
  rw [sumTo_congr (G := fun i => if lp ns p + 1 ≤ (i : Int) ∧ (i : Int) < (p : Int) + 1 then (ns.length : Int) - p else 0) (fun i _ => ?_), sumTo_some _ _ _ (by omega) (by omega) (by omega)]
  · rw [show (p : Int) + 1 - (lp ns p + 1) = (p : Int) - lp ns p from by omega]
  · by_cases h : i ≤ p ∧ lp ns p < (i : Int)
    · rw [if_pos h, if_pos ⟨by omega, by omega⟩]
    · rw [if_neg h, if_neg (fun z => h ⟨by omega, by omega⟩)]
theorem end_wins {ns : List Int} {b : Nat} (hb : b ≤ ns.length) : sumTo (fun f => (wunN ns f b : Int)) (b + 1) = sumTo (fun p => if decide ((b : Int) ≤ nx ns p) = true then (p : Int) + 1 else 0) b := by
  have e1 : sumTo (fun f => (wunN ns f b : Int)) (b + 1) = sumTo (fun f => sumTo (fun p => if f ≤ p then (if (b : Int) ≤ nx ns p then (1 : Int) else 0) else 0) b) (b + 1) :=
    sumTo_congr fun f hf => by
      rw [wunN_nexts hb (b - f) f (by omega)]
      have e := sumTo_shift (fun p => if f ≤ p then (if (b : Int) ≤ nx ns p then (1 : Int) else 0) else 0) f (b - f)
      rw [show f + (b - f) = b from by omega] at e
      rw [e, sumTo_congr (n := f) (G := fun _ => 0) (fun k hk => if_neg (by omega)), sumTo_zero, Int.zero_add]
      exact sumTo_congr fun k _ => (if_pos (by omega)).symm
  rw [e1, sumTo_swap]
  refine sumTo_congr fun p hp => ?_
  by_cases h : (b : Int) ≤ nx ns p
  · rw [if_pos (decide_eq_true h)]
    rw [sumTo_congr (G := fun f => if (0 : Int) ≤ (f : Int) ∧ (f : Int) < (p : Int) + 1 then 1 else 0) (fun f _ => ?_), sumTo_count _ _ (by omega) (by omega) _ (by omega)]
    · omega
    · by_cases q : f ≤ p
      · rw [if_pos q, if_pos h, if_pos ⟨by omega, by omega⟩]
      · rw [if_neg q, if_neg (fun z => by omega)]
  · have hd : ¬ decide ((b : Int) ≤ nx ns p) = true := by simp [h]
    rw [if_neg hd]
    simp only [if_neg h]
    rw [sumTo_congr (G := fun _ => 0) (fun k _ => by simp), sumTo_zero]
end Ur

namespace Ur
open PySem L2
/-! ### ends and begins -/
def optV : Option Nat → V
  | none => .non
  | some b => .int (b : Nat)
/-- the least behind with m unlike ones, from k places ahead of the row's end on -/
def endK (ns : List Int) (f : Nat) (m : Int) : Nat → Option Nat
  | 0 => if m ≤ (wunN ns f ns.length : Int) then some ns.length else none
  | k + 1 => if m ≤ (wunN ns f (ns.length - (k + 1)) : Int) then some (ns.length - (k + 1)) else endK ns f m k
def endAt (ns : List Int) (f : Nat) (m : Int) : Option Nat := endK ns f m (ns.length - f)
theorem endK_yes {ns : List Int} {f k : Nat} {m : Int} (h : m ≤ (wunN ns f (ns.length - k) : Int)) : endK ns f m k = some (ns.length - k) := by
  cases k with
  | zero => exact if_pos h
  | succ k => exact if_pos h
theorem endK_no {ns : List Int} {f k : Nat} {m : Int} (h : ¬ m ≤ (wunN ns f (ns.length - (k + 1)) : Int)) : endK ns f m (k + 1) = endK ns f m k := if_neg h
theorem endK_none {ns : List Int} {f : Nat} {m : Int} (h : ¬ m ≤ (wunN ns f ns.length : Int)) : endK ns f m 0 = none := if_neg h
/-- the greatest first, from g on down -/
def begK (ns : List Int) (b : Nat) (m : Int) : Nat → Option Nat
  | 0 => if m ≤ (wunN ns 0 b : Int) then some 0 else none
  | g + 1 => if m ≤ (wunN ns (g + 1) b : Int) then some (g + 1) else begK ns b m g
def begAt (ns : List Int) (b : Nat) (m : Int) : Option Nat := begK ns b m b
theorem begK_yes {ns : List Int} {b g : Nat} {m : Int} (h : m ≤ (wunN ns g b : Int)) : begK ns b m g = some g := by
  cases g with
  | zero => exact if_pos h
  | succ g => exact if_pos h
theorem begK_no {ns : List Int} {b g : Nat} {m : Int} (h : ¬ m ≤ (wunN ns (g + 1) b : Int)) : begK ns b m (g + 1) = begK ns b m g := if_neg h
theorem begK_none {ns : List Int} {b : Nat} {m : Int} (h : ¬ m ≤ (wunN ns 0 b : Int)) : begK ns b m 0 = none := if_neg h
theorem wunN_step {ns : List Int} {f b : Nat} (h : f ≤ b) (hb : b < ns.length) : wunN ns f b ≤ wunN ns f (b + 1) ∧ wunN ns f (b + 1) ≤ wunN ns f b + 1 := by
  rw [wunN_up h hb]
  split <;> omega
theorem wunN_stepD {ns : List Int} {f b : Nat} (h : f < b) (hb : b ≤ ns.length) : wunN ns (f + 1) b ≤ wunN ns f b ∧ wunN ns f b ≤ wunN ns (f + 1) b + 1 := by
  rw [wunN_down h hb]
  split <;> omega
theorem wunN_monoB {ns : List Int} {f : Nat} : ∀ {k b : Nat}, f ≤ b → b + k ≤ ns.length → wunN ns f b ≤ wunN ns f (b + k)
  | 0, _, _, _ => Nat.le_refl _
  | k + 1, b, h, hb => Nat.le_trans (wunN_monoB (k := k) h (by omega)) (wunN_step (b := b + k) (by omega) (by omega)).1
theorem wunN_monoF {ns : List Int} {b : Nat} (hb : b ≤ ns.length) : ∀ {k f : Nat}, f + k ≤ b → wunN ns (f + k) b ≤ wunN ns f b
  | 0, _, _ => Nat.le_refl _
  | k + 1, f, h => Nat.le_trans (wunN_stepD (f := f + k) (by omega) hb).1 (wunN_monoF hb (k := k) (by omega))
/-- what an end is -/
theorem endK_spec {ns : List Int} {f : Nat} {m : Int} : ∀ k : Nat, k ≤ ns.length →
    (endK ns f m k = none ∧ ∀ b, ns.length - k ≤ b → b ≤ ns.length → ¬ m ≤ (wunN ns f b : Int)) ∨
    ∃ e, endK ns f m k = some e ∧ ns.length - k ≤ e ∧ e ≤ ns.length ∧ m ≤ (wunN ns f e : Int) ∧ ∀ b, ns.length - k ≤ b → b < e → ¬ m ≤ (wunN ns f b : Int)
  | 0, _ => by
    by_cases h : m ≤ (wunN ns f ns.length : Int)
    · exact .inr ⟨ns.length, if_pos h, Nat.le_refl _, Nat.le_refl _, h, fun b h1 h2 => absurd h1 (by omega)⟩
    · refine .inl ⟨if_neg h, fun b h1 h2 => ?_⟩
      rw [show b = ns.length from by omega]
      exact h
  | k + 1, hk => by
    by_cases h : m ≤ (wunN ns f (ns.length - (k + 1)) : Int)
    · exact .inr ⟨ns.length - (k + 1), if_pos h, Nat.le_refl _, by omega, h, fun b h1 h2 => absurd h1 (by omega)⟩
    · have er := endK_no h
      rcases endK_spec (ns := ns) (f := f) (m := m) k (by omega) with ⟨e1, e2⟩ | ⟨e, e1, e2, e3, e4, e5⟩
      · refine .inl ⟨er.trans e1, fun b h1 h2 => ?_⟩
        by_cases q : b = ns.length - (k + 1)
        · rw [q]; exact h
        · exact e2 b (by omega) h2
      · refine .inr ⟨e, er.trans e1, by omega, e3, e4, fun b h1 h2 => ?_⟩
        by_cases q : b = ns.length - (k + 1)
        · rw [q]; exact h
        · exact e5 b (by omega) h2
theorem endAt_spec {ns : List Int} {f : Nat} {m : Int} (hf : f ≤ ns.length) :
    (endAt ns f m = none ∧ ∀ b, f ≤ b → b ≤ ns.length → ¬ m ≤ (wunN ns f b : Int)) ∨
    ∃ e, endAt ns f m = some e ∧ f ≤ e ∧ e ≤ ns.length ∧ m ≤ (wunN ns f e : Int) ∧ ∀ b, f ≤ b → b < e → ¬ m ≤ (wunN ns f b : Int) := by
  have h := endK_spec (ns := ns) (f := f) (m := m) (ns.length - f) (by omega)
  rw [show ns.length - (ns.length - f) = f from by omega] at h
  exact h
theorem begK_spec {ns : List Int} {b : Nat} {m : Int} : ∀ g : Nat,
    (begK ns b m g = none ∧ ∀ j, j ≤ g → ¬ m ≤ (wunN ns j b : Int)) ∨
    ∃ e, begK ns b m g = some e ∧ e ≤ g ∧ m ≤ (wunN ns e b : Int) ∧ ∀ j, e < j → j ≤ g → ¬ m ≤ (wunN ns j b : Int)
  | 0 => by
    by_cases h : m ≤ (wunN ns 0 b : Int)
    · exact .inr ⟨0, if_pos h, Nat.le_refl _, h, fun j h1 h2 => absurd h1 (by omega)⟩
    · refine .inl ⟨if_neg h, fun j h1 => ?_⟩
      rw [show j = 0 from by omega]
      exact h
  | g + 1 => by
    by_cases h : m ≤ (wunN ns (g + 1) b : Int)
    · exact .inr ⟨g + 1, if_pos h, Nat.le_refl _, h, fun j h1 h2 => absurd h1 (by omega)⟩
    · have er := begK_no h
      rcases begK_spec (ns := ns) (b := b) (m := m) g with ⟨e1, e2⟩ | ⟨e, e1, e2, e3, e4⟩
      · refine .inl ⟨er.trans e1, fun j h1 => ?_⟩
        by_cases q : j = g + 1
        · rw [q]; exact h
        · exact e2 j (by omega)
      · refine .inr ⟨e, er.trans e1, by omega, e3, fun j h1 h2 => ?_⟩
        by_cases q : j = g + 1
        · rw [q]; exact h
        · exact e4 j h1 (by omega)
/-- an end by what it is -/
theorem endAt_is {ns : List Int} {f e : Nat} {m : Int} (h1 : f ≤ e) (h2 : e ≤ ns.length) (h3 : m ≤ (wunN ns f e : Int)) (h4 : ∀ b, f ≤ b → b < e → ¬ m ≤ (wunN ns f b : Int)) : endAt ns f m = some e := by
  rcases endAt_spec (ns := ns) (f := f) (m := m) (by omega) with ⟨_, e2⟩ | ⟨e', e1, g1, g2, g3, g4⟩
  · exact absurd h3 (e2 e h1 h2)
  · rcases Nat.lt_trichotomy e e' with k | k | k
    · exact absurd h3 (g4 e h1 k)
    · rw [e1, k]
    · exact absurd g3 (h4 e' g1 k)
/-- at an end there are just so many, one ahead of it one less -/
theorem end_just {ns : List Int} {f e : Nat} {m : Int} (h0 : 0 ≤ m) (h1 : f ≤ e) (h2 : e ≤ ns.length) (h3 : m ≤ (wunN ns f e : Int)) (h4 : ∀ b, f ≤ b → b < e → ¬ m ≤ (wunN ns f b : Int)) :
    (wunN ns f e : Int) = m ∧ (0 < m → f < e ∧ (wunN ns f (e - 1) : Int) = m - 1) := by
  by_cases h : f = e
  · rw [← h] at h3 ⊢
    rw [wunN_none] at h3 ⊢
    refine ⟨by omega, fun k => by omega⟩
  · have hb := h4 (e - 1) (by omega) (by omega)
    have hs := wunN_step (ns := ns) (f := f) (b := e - 1) (by omega) (by omega)
    rw [show e - 1 + 1 = e from by omega] at hs
    refine ⟨by omega, fun k => ⟨by omega, by omega⟩⟩
theorem beg_just {ns : List Int} {g b : Nat} {m : Int} (h0 : 0 ≤ m) (h1 : g ≤ b) (h2 : b ≤ ns.length) (h3 : m ≤ (wunN ns g b : Int)) (h4 : ∀ j, g < j → j ≤ b → ¬ m ≤ (wunN ns j b : Int)) :
    (wunN ns g b : Int) = m ∧ (0 < m → g < b ∧ (wunN ns (g + 1) b : Int) = m - 1) := by
  by_cases h : g = b
  · rw [← h] at h3 ⊢
    rw [wunN_none] at h3 ⊢
    refine ⟨by omega, fun k => by omega⟩
  · have hb := h4 (g + 1) (by omega) (by omega)
    have hs := wunN_stepD (ns := ns) (f := g) (b := b) (by omega) h2
    refine ⟨by omega, fun k => ⟨by omega, by omega⟩⟩
end Ur
namespace Ur
open PySem L2
theorem wunN_all (ns : List Int) : wunN ns 0 ns.length = ulen ns := by
  unfold wunN
  rw [List.drop_zero, Nat.sub_zero, List.take_length]
theorem wunN_le {ns : List Int} {f b : Nat} (h : f ≤ b) (hb : b ≤ ns.length) : wunN ns f b ≤ ulen ns := by
  have h1 := wunN_monoB (ns := ns) (f := f) (b := b) (k := ns.length - b) h (by omega)
  rw [show b + (ns.length - b) = ns.length from by omega] at h1
  have h2 := wunN_monoF (ns := ns) (b := ns.length) (Nat.le_refl _) (k := f) (f := 0) (by omega)
  rw [Nat.zero_add, wunN_all] at h2
  omega
theorem end_more (ns : List Int) : endAt ns 0 ((ulen ns : Nat) + 1 : Int) = none := by
  rcases endAt_spec (ns := ns) (f := 0) (m := (ulen ns : Nat) + 1) (Nat.zero_le _) with ⟨e1, _⟩ | ⟨e, _, h1, h2, h3, _⟩
  · exact e1
  · have := wunN_le h1 h2
    omega
theorem beg_more (ns : List Int) : begAt ns ns.length ((ulen ns : Nat) + 1 : Int) = none := by
  rcases begK_spec (ns := ns) (b := ns.length) (m := (ulen ns : Nat) + 1) ns.length with ⟨e1, _⟩ | ⟨e, _, h1, h2, _⟩
  · exact e1
  · have := wunN_le h1 (Nat.le_refl _)
    omega
theorem rgV_ints {b : Int} {n : Nat} (h : b = n) : rgV 0 b = ((List.range n).map fun k => ((k : Nat) : Int)).map V.int := by
  subst h
  unfold rgV
  rw [List.map_map, Int.sub_zero, Int.toNat_natCast]
  exact List.map_congr_left fun k _ => by rw [Int.zero_add]; rfl
end Ur
namespace Ur
open PySem L2
theorem inV_int {ns : List Int} {x : Int} : inV (.int x) (ns.map V.int) = decide (x ∈ ns) := by
  unfold inV
  rw [List.any_map, Bool.eq_iff_iff, List.any_eq_true, decide_eq_true_iff]
  constructor
  · rintro ⟨y, hy, e⟩
    have e2 : (y == x) = true ∨ (x == y) = true := by first | exact Or.inl e | exact Or.inr e
    rcases e2 with e2 | e2
    · exact eq_of_beq e2 ▸ hy
    · exact (eq_of_beq e2).symm ▸ hy
  · intro h
    refine ⟨x, h, ?_⟩
    exact beq_self_eq_true x
theorem in_int {K : PySem.W.Frag} {H : Hp} {a : Addr} {ns : List Int} {x : Int} {Q : VK} (h : SqL K H a (ns.map V.int)) (q : Q (.bl (decide (x ∈ ns))) H) : rIn K false (.int x) (.ref a) H Q :=
  ⟨a, _, rfl, .inl h, rfl, by rw [List.all_map]; exact List.all_eq_true.mpr fun _ _ => rfl, by rw [inV_int]; exact q⟩
theorem notin_int {K : PySem.W.Frag} {H : Hp} {a : Addr} {ns : List Int} {x : Int} {Q : VK} (h : SqL K H a (ns.map V.int)) (q : Q (.bl (!decide (x ∈ ns))) H) : rIn K true (.int x) (.ref a) H Q :=
  ⟨a, _, rfl, .inl h, rfl, by rw [List.all_map]; exact List.all_eq_true.mpr fun _ _ => rfl, by rw [inV_int]; exact q⟩
/-! ### from behind -/
theorem ulen_rev (ns : List Int) : ulen ns.reverse = ulen ns := ulen_congr fun x => List.mem_reverse
theorem wunN_rev {ns : List Int} {b j : Nat} (hj : j ≤ b) (hb : b ≤ ns.length) : wunN (ns.take b).reverse 0 j = wunN ns (b - j) b := by
  unfold wunN
  rw [List.drop_zero, Nat.sub_zero, List.take_reverse, ulen_rev]
  rw [List.length_take, Nat.min_eq_left hb, show b - (b - j) = j from by omega, List.drop_take, show b - (b - j) = j from by omega]
theorem begAt_is {ns : List Int} {b e : Nat} {m : Int} (h1 : e ≤ b) (h3 : m ≤ (wunN ns e b : Int)) (h4 : ∀ j, e < j → j ≤ b → ¬ m ≤ (wunN ns j b : Int)) : begAt ns b m = some e := by
  rcases begK_spec (ns := ns) (b := b) (m := m) b with ⟨_, e2⟩ | ⟨e', e1, g1, g2, g3⟩
  · exact absurd h3 (e2 e h1)
  · rcases Nat.lt_trichotomy e e' with k | k | k
    · exact absurd g2 (h4 e' k g1)
    · exact e1.trans (by rw [k])
    · exact absurd h3 (g3 e k h1)
theorem begAt_rev {ns : List Int} {b : Nat} {m : Int} (hb : b ≤ ns.length) :
    (endAt (ns.take b).reverse 0 m = none ∧ begAt ns b m = none) ∨ ∃ e, endAt (ns.take b).reverse 0 m = some e ∧ e ≤ b ∧ begAt ns b m = some (b - e) := by
  have hl : (ns.take b).reverse.length = b := by rw [List.length_reverse, List.length_take]; omega
  rcases endAt_spec (ns := (ns.take b).reverse) (f := 0) (m := m) (Nat.zero_le _) with ⟨e1, e2⟩ | ⟨e, e1, h1, h2, h3, h4⟩
  · refine .inl ⟨e1, ?_⟩
    rcases begK_spec (ns := ns) (b := b) (m := m) b with ⟨k, _⟩ | ⟨g, _, g1, g2, _⟩
    · exact k
    · have := e2 (b - g) (Nat.zero_le _) (by omega)
      rw [wunN_rev (by omega) hb, show b - (b - g) = g from by omega] at this
      exact absurd g2 this
  · rw [hl] at h2
    refine .inr ⟨e, e1, h2, begAt_is (by omega) ?_ fun j k1 k2 => ?_⟩
    · rw [wunN_rev h2 hb] at h3
      exact h3
    · have := h4 (b - j) (Nat.zero_le _) (by omega)
      rw [wunN_rev (by omega) hb, show b - (b - j) = j from by omega] at this
      exact this
theorem endAt_0 {ns : List Int} {f : Nat} (h : f ≤ ns.length) : endAt ns f 0 = some f := endAt_is (Nat.le_refl f) h (by omega) fun b h1 h2 => absurd h1 (by omega)
theorem begAt_0 (ns : List Int) (b : Nat) : begAt ns b 0 = some b := begAt_is (Nat.le_refl b) (by omega) fun j h1 h2 => absurd h1 (by omega)
/-- the unlike ones of a window, one more -/
theorem uni_up {ns : List Int} {f b : Nat} {x : Int} (h : f ≤ b) (e : ns[b]? = some x) : uni ((ns.drop f).take (b + 1 - f)) = if x ∈ uni ((ns.drop f).take (b - f)) then uni ((ns.drop f).take (b - f)) else uni ((ns.drop f).take (b - f)) ++ [x] := by
  have e1 : (ns.drop f)[b - f]? = some x := by rw [List.getElem?_drop, show f + (b - f) = b from by omega]; exact e
  rw [show b + 1 - f = (b - f) + 1 from by omega, take_snoc e1, uni_snoc]
  by_cases k : x ∈ (ns.drop f).take (b - f)
  · rw [if_pos k, if_pos ((mem_uni _ x).mpr k)]
  · rw [if_neg k, if_neg (fun z => k ((mem_uni _ x).mp z))]
end Ur
namespace Ur
open PySem L2
/-- None or a whole number -/
structure IsO (v : V) : Prop where
  or : v = .non ∨ ∃ i : Int, v = .int i
theorem IsO.opt (x : Option Nat) : IsO (optV x) := by
  cases x with
  | none => exact ⟨.inl rfl⟩
  | some b => exact ⟨.inr ⟨_, rfl⟩⟩
end Ur

namespace Ur
open PySem L2
/-! ### xs[::c] -/
theorem vals_pick {xs : List V} {us : List Value} (r : Vals xs us) : ∀ ids : List Nat, Vals (ids.filterMap fun i => xs[i]?) (ids.filterMap fun i => us.toArray[i]?)
  | [] => .nil
  | i :: ids => by
    have hl := Vals.length r
    have e2 : us.toArray[i]? = us[i]? := by simp
    cases h : xs[i]? with
    | none =>
      have h2 : us[i]? = none := by
        rw [List.getElem?_eq_none_iff] at h ⊢
        omega
      rw [List.filterMap_cons_none h, List.filterMap_cons_none (by rw [e2, h2])]
      exact vals_pick r ids
    | some x =>
      obtain ⟨u, h2, h3⟩ := r.get h
      rw [List.filterMap_cons_some h, List.filterMap_cons_some (b := u) (by rw [e2, h2])]
      exact .cons h3 (vals_pick r ids)
def tStep (K : PySem.W.Frag) (te : TE) : TE := fun σ H Q => te σ H fun x H1 => ∃ a xs, x = .ref a ∧ SqL K H1 a xs ∧ ∀ p ys, (∀ y ∈ ys, y ∈ xs) → ys.length ≤ xs.length → H1 p = none → Q (.ref p) (upd H1 p (.lst ys))
open PySem.Spec PyProof.Rows in
theorem pe_step2 {X : Cx} {e : Expr} {te : TE} {k : Nat} {p1 p3 pos : Pos} (he : PE X e te) : PE X (.Subscript e (.Slice none none (some (.Constant (.int 2) k p1)) p3) pos) (tStep X.K te) := by
  refine ⟨fun pins s σ H Q I h => ?_⟩
  refine Subscript_ (thn (he.run pins s σ H _ I h) fun v s1 ⟨x, H1, I1, r1, q1⟩ => ?_)
  obtain ⟨a, xs, ex, hx, q⟩ := q1
  subst ex
  cases r1
  have hst : PO X (some (.Constant (.int 2) k p1)) (tPart (tC (.int 2))) := po_some pe_int
  refine wpAny_Slice (thn (po_none.run pins s1 σ H1 (fun o H2 => o = none ∧ H2 = H1) I1 ⟨rfl, rfl⟩) fun vl s2 ⟨l, H2, I2, pl, el, e2⟩ => ?_)
  subst el e2
  refine thn (po_none.run pins s2 σ H2 (fun o H3 => o = none ∧ H3 = H2) I2 ⟨rfl, rfl⟩) fun vu s3 ⟨u, H3, I3, pu, eu, e3⟩ => ?_
  subst eu e3
  refine thn (hst.run pins s3 σ H3 (fun o H4 => o = some 2 ∧ H4 = H3) I3 ⟨2, rfl, rfl, rfl⟩) fun vs s4 ⟨o, H4, I4, ps, eo, e4⟩ => ?_
  subst eo e4
  have I5 : Inv X pins σ H4 { s4 with heap := s4.heap.push { cls := .type "slice", data := .fields #[vl, vu, vs] } } := I4.kept (t' := s4.toks) fun b ob q => Heap.get?_push_of_some _ q
  obtain ⟨its, r, ht, hz⟩ := I5.list hx
  have hlen := r.length
  show wpAny (model X.prog X.w) X.A (subscriptTail e (.Slice none none (some (.Constant (.int 2) k p1)) p3) (.ref a) (.ref s4.heap.objs.size)) (EP X pins σ Q) X.xe { s4 with heap := s4.heap.push { cls := .type "slice", data := .fields #[vl, vu, vs] } }
  refine tail_any (ops := [.ref a, .ref s4.heap.objs.size]) ht.isList.typeIs (PySem.slot_list_getitem.lookup) ?_ (by with_unfolding_all rfl)
  refine wpAny_getItem_list_slice ht.isList (Heap.IsSliceOf.new _ vl vu vs) pl pu ps (by decide) ?_ (by rw [List.size_toArray]; omega)
  have hid : ∀ n : Nat, (sliceRange (sliceBounds none none (some 2) n).1 (sliceBounds none none (some 2) n).2.1 (sliceBounds none none (some 2) n).2.2).length ≤ n := fun n => by
    have e : sliceBounds none none (some 2) n = (0, (n : Int), 2) := by simp [sliceBounds]
    rw [e]
    exact sliceRange_length_le 0 n 2 n (fun _ => ⟨by omega, by omega⟩) (fun h => absurd (by decide) h)
  have hid2 := hid its.toArray.size
  unfold slicePick
  generalize hI : sliceRange (sliceBounds none none (some 2) its.toArray.size).1 (sliceBounds none none (some 2) its.toArray.size).2.1 (sliceBounds none none (some 2) its.toArray.size).2.2 = ids at hid2
  have hv := vals_pick r ids
  have hly : (ids.filterMap fun i => xs[i]?).length ≤ xs.length := by
    refine Nat.le_trans (List.length_filterMap_le _ _) ?_
    rw [List.size_toArray] at hid2
    omega
  refine ⟨.ref _, _, I5.laid (t' := s4.toks) (o := .lst (ids.filterMap fun i => xs[i]?)) (fun b ob q => Heap.get?_push_of_some _ q) (Nat.le_refl _) ?_, rfl, q _ _ (fun y hy => ?_) hly (I5.hok.fresh (Nat.le_refl _))⟩
  · exact ⟨by omega, _, 0, hv, Heap.get?_push_size _ rfl⟩
  · obtain ⟨i, _, e⟩ := List.mem_filterMap.mp hy
    exact List.mem_of_getElem? e
end Ur

namespace Ur
open PySem L2
/-! ### windows that were drawn -/
/-- at t a window of a row of n -/
structure WinAt (n : Int) (H : Hp) (t : Addr) : Prop where
  at_ : ∃ f b : Int, H t = some (.tup [.int f, .int b]) ∧ 0 ≤ f ∧ f ≤ b ∧ b ≤ n
theorem WinAt.same {n : Int} {H H' : Hp} {t : Addr} (w : WinAt n H t) (s : Same H H') : WinAt n H' t := by
  obtain ⟨f, b, e, h⟩ := w.at_
  exact ⟨f, b, s _ _ e, h⟩
theorem WinAt.but {n : Int} {H H' : Hp} {t a : Addr} {xs : List V} (w : WinAt n H t) (s : But a H H') (ha : H a = some (.lst xs)) : WinAt n H' t := by
  obtain ⟨f, b, e, h⟩ := w.at_
  exact ⟨f, b, s _ _ (fun k => by rw [k, ha] at e; cases e) e, h⟩
theorem WinAt.upd {n : Int} {H : Hp} {t a : Addr} {xs : List V} {o : HO} (w : WinAt n H t) (ha : H a = some (.lst xs)) : WinAt n (upd H a o) t := by
  obtain ⟨f, b, e, h⟩ := w.at_
  exact ⟨f, b, by rw [upd_ne (fun k => by rw [k, ha] at e; cases e)]; exact e, h⟩
end Ur

namespace Ur
open PySem L2
/-! ### lists of last places -/
theorem lastAt_succ (ns : List Int) (i : Nat) (x : Int) : lastAt ns (i + 1) x = if ns.getD i 0 = x then (i : Int) else lastAt ns i x := rfl
theorem getD_app {r s : List Int} {j : Nat} (h : j < r.length) : (r ++ s).getD j 0 = r.getD j 0 := by
  rw [List.getD_eq_getElem?_getD, List.getD_eq_getElem?_getD, List.getElem?_append_left h]
theorem lastAt_app {r s : List Int} {x : Int} : ∀ {i : Nat}, i ≤ r.length → lastAt (r ++ s) i x = lastAt r i x
  | 0, _ => rfl
  | i + 1, h => by rw [lastAt_succ, lastAt_succ, getD_app h, lastAt_app (Nat.le_of_lt h)]
theorem lastP_snoc (r : List Int) (x : Int) : lastP (r ++ [x]) = lastP r ++ [lastAt r r.length x] := by
  have hl : (r ++ [x]).length = r.length + 1 := by rw [List.length_append]; rfl
  have h := lastP_take (ns := r ++ [x]) (i := r.length) (by omega)
  have e1 : (lastP (r ++ [x])).take (r.length + 1) = lastP (r ++ [x]) := by rw [← hl, ← lastP_len, List.take_length]
  have e2 : (lastP (r ++ [x])).take r.length = lastP r := by
    refine List.ext_getElem? fun k => ?_
    by_cases hk : k < r.length
    · rw [List.getElem?_take, if_pos hk, lastP_get (by omega), lastP_get hk, getD_app hk, lastAt_app (Nat.le_of_lt hk)]
    · rw [List.getElem?_take, if_neg hk, List.getElem?_eq_none (by rw [lastP_len]; omega)]
  have e3 : (r ++ [x]).getD r.length 0 = x := by
    rw [List.getD_eq_getElem?_getD, List.getElem?_append_right (Nat.le_refl _), Nat.sub_self]; rfl
  rw [e1, e2, e3, lastAt_app (Nat.le_refl _)] at h
  exact h
theorem lastAt_not {r : List Int} {x : Int} (h : x ∉ r) : lastAt r r.length x = -1 := by
  rcases lastAt_spec r x r.length with ⟨e, _⟩ | ⟨v, _, h1, h2, _⟩
  · exact e
  · exact absurd (h2 ▸ List.mem_of_getElem? (get_of h1)) h
theorem fresh_int (r : List Int) : ∃ x : Int, x ∉ r := by
  have k : ∀ r : List Int, ∃ b : Int, ∀ y ∈ r, y < b := by
    intro r
    induction r with
    | nil => exact ⟨0, fun y h => nomatch h⟩
    | cons z r ih =>
      obtain ⟨b, hb⟩ := ih
      refine ⟨max b (z + 1), fun y hy => ?_⟩
      rcases List.mem_cons.mp hy with e | e
      · rw [e]; omega
      · have := hb y e; omega
  obtain ⟨b, hb⟩ := k r
  exact ⟨b, fun h => absurd (hb b h) (by omega)⟩
/-- a list of last places, one more: a new number -/
theorem lasts_new (r : List Int) : ∃ x, lastP (r ++ [x]) = lastP r ++ [-1] := by
  obtain ⟨x, hx⟩ := fresh_int r
  exact ⟨x, by rw [lastP_snoc, lastAt_not hx]⟩
/-- .. or that of a place that is none yet -/
theorem lasts_old {r : List Int} {l : Nat} (hl : l < r.length) (hn : (l : Int) ∉ lastP r) : lastP (r ++ [r.getD l 0]) = lastP r ++ [(l : Int)] := by
  rw [lastP_snoc]
  have e : lastAt r r.length (r.getD l 0) = l := by
    refine lastAt_uniq (.inr ⟨l, rfl, hl, rfl⟩) fun j hj hx => ?_
    by_cases h : j ≤ l
    · omega
    · exfalso
      have key : ∀ d j, j = l + 1 + d → j < r.length → r.getD j 0 = r.getD l 0 → False := by
        intro d
        induction d using Nat.strongRecOn with
        | _ d ih =>
          intro j hjd hj hx
          refine hn ?_
          have hg := lastP_get hj
          have : lastAt r j (r.getD j 0) = l := by
            rw [hx]
            refine lastAt_uniq (.inr ⟨l, rfl, by omega, rfl⟩) fun i hi hxi => ?_
            by_cases q : i ≤ l
            · omega
            · exact (ih (i - (l + 1)) (by omega) i (by omega) (by omega) hxi).elim
          rw [this] at hg
          exact List.mem_of_getElem? hg
      exact key (j - (l + 1)) j (by omega) hj hx
  rw [e]
/-- what a last place is -/
theorem lastP_ok {r : List Int} {i : Nat} {l : Int} (h : (lastP r)[i]? = some l) : -1 ≤ l ∧ l < i ∧ (0 ≤ l → l ∉ (lastP r).take i) := by
  have hi : i < r.length := by
    have := (List.getElem?_eq_some_iff.mp h).1
    rwa [lastP_len] at this
  have e := lastP_get hi
  rw [h] at e
  have e := Option.some.inj e
  have hr := lastAt_range r (r.getD i 0) i
  refine ⟨by omega, by omega, fun h0 hm => ?_⟩
  obtain ⟨j, hj⟩ := List.mem_iff_getElem?.mp hm
  rw [List.getElem?_take] at hj
  by_cases q : j < i
  · rw [if_pos q, lastP_get (by omega)] at hj
    have e2 := Option.some.inj hj
    rcases lastAt_spec r (r.getD i 0) i with ⟨k, _⟩ | ⟨v, k1, k2, k3, k4⟩
    · omega
    · rcases lastAt_spec r (r.getD j 0) j with ⟨m, _⟩ | ⟨w, m1, m2, m3, _⟩
      · omega
      · have hvw : v = w := by omega
        exact k4 j (by omega) q (by rw [← m3, ← hvw, k3])
  · rw [if_neg q] at hj; cases hj
theorem lastP_map {f : Int → Int} {r : List Int} (h : InjOn f r) : lastP (r.map f) = lastP r := by
  have g : ∀ j, j < r.length → (r.map f).getD j 0 = f (r.getD j 0) := fun j hj => by
    rw [List.getD_eq_getElem?_getD, List.getElem?_map, get_of hj]; rfl
  have k : ∀ i x, i ≤ r.length → x ∈ r → lastAt (r.map f) i (f x) = lastAt r i x := by
    intro i x
    induction i with
    | zero => intro _ _; rfl
    | succ i ih =>
      intro hi hx
      rw [lastAt_succ, lastAt_succ, g i hi, ih (Nat.le_of_lt hi) hx]
      have hm : r.getD i 0 ∈ r := List.mem_of_getElem? (get_of hi)
      by_cases q : r.getD i 0 = x
      · rw [if_pos q, if_pos (by rw [q])]
      · rw [if_neg q, if_neg (fun z => q (h _ hm _ hx z))]
  refine List.ext_getElem? fun i => ?_
  by_cases hi : i < r.length
  · rw [lastP_get (by rw [List.length_map]; exact hi), lastP_get hi, g i hi, k i _ (Nat.le_of_lt hi) (List.mem_of_getElem? (get_of hi))]
  · rw [List.getElem?_eq_none (by rw [lastP_len, List.length_map]; omega), List.getElem?_eq_none (by rw [lastP_len]; omega)]
theorem plain_inj (r : List Int) : InjOn (fun x => (plainAt r x : Int)) r := fun x hx y hy e => plainAt_inj hx hy (by have e2 : ((plainAt r x : Nat) : Int) = (plainAt r y : Nat) := e; omega)
theorem lastP_plain (r : List Int) : lastP (plainP r) = lastP r := lastP_map (plain_inj r)
/-- -1 stands just where a number is new -/
theorem last_new {r : List Int} {i : Nat} (hi : i < r.length) : lastAt r i (r.getD i 0) < 0 ↔ r.getD i 0 ∉ r.take i := by
  rcases lastAt_spec r (r.getD i 0) i with ⟨e, n⟩ | ⟨v, e, h1, h2, _⟩
  · refine ⟨fun _ hm => ?_, fun _ => by omega⟩
    obtain ⟨j, hj⟩ := List.mem_iff_getElem?.mp hm
    rw [List.getElem?_take] at hj
    by_cases q : j < i
    · rw [if_pos q] at hj; exact n j q (getD_of hj)
    · rw [if_neg q] at hj; cases hj
  · refine ⟨fun h => by omega, fun h => absurd ?_ h⟩
    exact List.mem_iff_getElem?.mpr ⟨v, by rw [List.getElem?_take, if_pos h1, get_of (by omega), h2]⟩
theorem lastP_takeR (r : List Int) (n : Nat) : lastP (r.take n) = (lastP r).take n := by
  by_cases h : n ≤ r.length
  · have e := List.take_append_drop n r
    have hl : (r.take n).length = n := by rw [List.length_take]; omega
    refine List.ext_getElem? fun k => ?_
    rw [List.getElem?_take]
    by_cases hk : k < n
    · have g : (r.take n).getD k 0 = r.getD k 0 := by
        rw [List.getD_eq_getElem?_getD, List.getD_eq_getElem?_getD, List.getElem?_take, if_pos hk]
      have a : lastAt r k (r.getD k 0) = lastAt (r.take n) k (r.getD k 0) := by
        have := lastAt_app (r := r.take n) (s := r.drop n) (x := r.getD k 0) (i := k) (by omega)
        rwa [e] at this
      rw [if_pos hk, lastP_get (by omega), lastP_get (by omega), g, a]
    · rw [if_neg hk, List.getElem?_eq_none (by rw [lastP_len]; omega)]
  · rw [List.take_of_length_le (by omega), List.take_of_length_le (by rw [lastP_len]; omega)]
theorem lastP_drop (r : List Int) (n : Nat) : lastP (r.drop n) = ((lastP r).drop n).map fun l => max (-1) (l - (n : Int)) := by
  refine List.ext_getElem? fun k => ?_
  rw [List.getElem?_map, List.getElem?_drop]
  by_cases hk : n + k < r.length
  · have hkd : k < (r.drop n).length := by rw [List.length_drop]; omega
    have g : ∀ j, (r.drop n).getD j 0 = r.getD (n + j) 0 := fun j => by
      rw [List.getD_eq_getElem?_getD, List.getD_eq_getElem?_getD, List.getElem?_drop]
    rw [lastP_get hkd, lastP_get hk, g]
    show some (lastAt (r.drop n) k (r.getD (n + k) 0)) = some (max (-1) (lastAt r (n + k) (r.getD (n + k) 0) - (n : Int)))
    congr 1
    rcases lastAt_spec r (r.getD (n + k) 0) (n + k) with ⟨e, m⟩ | ⟨v, e, h1, h2, m⟩
    · rw [e]
      refine lastAt_uniq (.inl (by omega)) fun j hj hx => ?_
      rw [g] at hx
      exact absurd hx (m (n + j) (by omega))
    · rw [e]
      by_cases q : n ≤ v
      · refine lastAt_uniq (.inr ⟨v - n, by omega, by omega, by rw [g, show n + (v - n) = v from by omega]; exact h2⟩) fun j hj hx => ?_
        rw [g] at hx
        by_cases p : n + j ≤ v
        · omega
        · exact absurd hx (m (n + j) (by omega) (by omega))
      · refine lastAt_uniq (.inl (by omega)) fun j hj hx => ?_
        rw [g] at hx
        exact absurd hx (m (n + j) (by omega) (by omega))
  · rw [List.getElem?_eq_none (by rw [lastP_len, List.length_drop]; omega), List.getElem?_eq_none (by rw [lastP_len]; omega)]
    rfl
end Ur
namespace Ur
open PySem L2
theorem pop_at {fs : List Int} {i : Int} (h0 : 0 ≤ i) (h1 : i < fs.length) : seqIndex? i (fs.map V.int).length = some i.toNat := by
  rw [List.length_map]
  simp [seqIndex?, show ¬ i < 0 from by omega, h0, h1]
theorem pop_get {fs : List Int} {k : Nat} (h : k < fs.length) : (fs.map V.int)[k]? = some (V.int (fs.getD k 0)) := iv_get' (get_of h)
theorem erase_map (fs : List Int) (k : Nat) : (fs.map V.int).eraseIdx k = (fs.eraseIdx k).map V.int := by
  induction fs generalizing k with
  | nil => rfl
  | cons x fs ih => cases k with
    | zero => rfl
    | succ k => show V.int x :: (fs.map V.int).eraseIdx k = _; rw [ih]; rfl
theorem mem_erase {fs : List Int} {k : Nat} {f : Int} (h : f ∈ fs.eraseIdx k) : f ∈ fs := (List.eraseIdx_sublist fs k).mem h
theorem erase_nodup : ∀ {fs : List Int} {k : Nat}, k < fs.length → fs.Nodup → (fs.eraseIdx k).Nodup ∧ fs.getD k 0 ∉ fs.eraseIdx k
  | x :: fs, 0, _, d => by
    have h := List.nodup_cons.mp d
    exact ⟨h.2, h.1⟩
  | x :: fs, k + 1, h, d => by
    obtain ⟨d1, d2⟩ := List.nodup_cons.mp d
    have hk : k < fs.length := Nat.lt_of_succ_lt_succ h
    obtain ⟨e1, e2⟩ := erase_nodup hk d2
    refine ⟨List.nodup_cons.mpr ⟨fun m => d1 (mem_erase m), e1⟩, fun m => ?_⟩
    have m2 : fs.getD k 0 ∈ x :: fs.eraseIdx k := m
    rcases List.mem_cons.mp m2 with e | e
    · exact d1 (e ▸ List.mem_of_getElem? (get_of hk))
    · exact e2 e
end Ur
namespace Ur
open PySem L2
theorem next_of_last {r : List Int} {i : Nat} (hi : i < r.length) (h : 0 ≤ lp r i) : nx r (lp r i).toNat = i := by
  rcases lastAt_spec r (r.getD i 0) i with ⟨e, _⟩ | ⟨l, e, h1, h2, h3⟩
  · have : lp r i = -1 := e
    omega
  · have e' : lp r i = l := e
    rw [e', Int.toNat_natCast]
    rcases nextUp_spec r l r.length (Nat.le_refl _) with ⟨_, n⟩ | ⟨v, k, k1, k2, k3, k4⟩
    · exact absurd h2.symm (n i h1 hi)
    · have k' : nx r l = v := k
      rw [k']
      rcases Nat.lt_trichotomy v i with q | q | q
      · exact absurd (k3.trans h2) (h3 v k1 q)
      · rw [q]
      · exact absurd h2.symm (k4 i h1 q)
theorem count_map (g : Nat → Int) (t : Int → Bool) : ∀ n : Nat, ((((List.range n).map g).filter t).length : Int) = sumTo (fun k => if t (g k) = true then 1 else 0) n
  | 0 => rfl
  | n + 1 => by
    rw [List.range_succ, List.map_append, List.filter_append, List.length_append, Int.natCast_add, count_map g t n]
    show _ + _ = _ + (if t (g n) = true then 1 else 0)
    cases h : t (g n) with
    | true => rw [List.map_cons, List.filter_cons_of_pos h]; rfl
    | false => rw [List.map_cons, List.filter_cons_of_neg (by rw [h]; exact Bool.false_ne_true)]; rfl
theorem nx_le {r : List Int} {p : Nat} : nx r p ≤ r.length := by
  rcases nextUp_spec r p r.length (Nat.le_refl _) with ⟨e, _⟩ | ⟨v, e, h1, h2, _⟩
  · exact Int.le_of_eq e
  · have : nx r p = v := e
    omega
theorem count_ends (r : List Int) : ((nextP r).filter (fun x => decide (x = (r.length : Int)))).length = ulen r := by
  have h := wunN_nexts (ns := r) (b := r.length) (Nat.le_refl _) r.length 0 (Nat.zero_add _)
  rw [wunN_all] at h
  have c := count_map (fun k => nextUp r k r.length) (fun x => decide (x = (r.length : Int))) r.length
  have e : sumTo (fun k => if decide (nextUp r k r.length = (r.length : Int)) = true then (1 : Int) else 0) r.length = sumTo (fun j => if (r.length : Int) ≤ nextUp r (0 + j) r.length then (1 : Int) else 0) r.length := sumTo_congr fun k _ => by
    have := nx_le (r := r) (p := k)
    have this : nextUp r k r.length ≤ (r.length : Int) := this
    rw [Nat.zero_add]
    by_cases q : (r.length : Int) ≤ nextUp r k r.length
    · rw [if_pos q, if_pos (decide_eq_true (by omega))]
    · rw [if_neg q, if_neg (by rw [decide_eq_false (by omega)]; exact Bool.false_ne_true)]
  have c2 : (((nextP r).filter (fun x => decide (x = (r.length : Int)))).length : Int) = (ulen r : Int) := c.trans (e.trans h.symm)
  omega
theorem count_news (r : List Int) : ((lastP r).filter (fun x => decide (x = -1))).length = ulen r := by
  have h := wunN_lasts (ns := r) (f := 0) r.length (Nat.zero_le _) (Nat.le_refl _)
  rw [wunN_all] at h
  have c := count_map (fun k => lastAt r k (r.getD k 0)) (fun x => decide (x = -1)) r.length
  have e : sumTo (fun k => if decide (lastAt r k (r.getD k 0) = -1) = true then (1 : Int) else 0) r.length = sumTo (fun p => if 0 ≤ p ∧ lastAt r p (r.getD p 0) < ((0 : Nat) : Int) then (1 : Int) else 0) r.length := sumTo_congr fun k _ => by
    have := lastAt_range r (r.getD k 0) k
    by_cases q : lastAt r k (r.getD k 0) < ((0 : Nat) : Int)
    · have hd : decide (lastAt r k (r.getD k 0) = -1) = true := decide_eq_true (by omega)
      rw [if_pos hd, if_pos ⟨Nat.zero_le _, q⟩]
    · have hd : ¬ decide (lastAt r k (r.getD k 0) = -1) = true := fun z => by
        have := of_decide_eq_true z
        omega
      rw [if_neg hd, if_neg (fun z => q z.2)]
  have c2 : (((lastP r).filter (fun x => decide (x = -1))).length : Int) = (ulen r : Int) := c.trans (e.trans h.symm)
  omega
theorem idx_take {r : List Int} {x : Int} {n : Nat} (h : x ∈ r.take n) : (r.take n).idxOf x = r.idxOf x := by
  have hm := List.mem_of_mem_take h
  have hlt : r.idxOf x < n := by
    obtain ⟨j, hj⟩ := List.mem_iff_getElem?.mp h
    rw [List.getElem?_take] at hj
    by_cases q : j < n
    · rw [if_pos q] at hj
      by_cases p : r.idxOf x ≤ j
      · omega
      · exact absurd (List.mem_iff_getElem?.mpr ⟨j, by rw [List.getElem?_take, if_pos (by omega)]; exact hj⟩) (idx_not (ns := r) (x := x))
    · rw [if_neg q] at hj; cases hj
  refine idx_first (by rw [List.getElem?_take, if_pos hlt]; exact idx_get hm) ?_
  rw [List.take_take, Nat.min_eq_left (Nat.le_of_lt hlt)]
  exact idx_not
theorem plainP_take (r : List Int) (n : Nat) : plainP (r.take n) = (plainP r).take n := by
  unfold plainP
  rw [← List.map_take]
  refine List.map_congr_left fun x hx => ?_
  show ((plainAt (r.take n) x : Nat) : Int) = (plainAt r x : Nat)
  unfold plainAt
  have hlt : r.idxOf x ≤ n := by
    have := idx_lt hx
    rw [idx_take hx, List.length_take] at this
    omega
  rw [idx_take hx, List.take_take, Nat.min_eq_left hlt]
end Ur

namespace UrS
open PySem PySem.Spec PyProof.Rows L2
section
variable {prog : Program} {w : World} {A : Around} {E : Value → Shared → Prop} {s : Shared}
/-- xs[:0] = ys, both lists, at the library's level -/
theorem setFront {l sl b : Addr} {xs ys : Array Value} {n m : Nat} {vl vu vs : Value} {Q : Unit → Shared → Prop}
    (h1 : s.heap.get? l = some { cls := .type "list", data := .seq xs n }) (h2 : s.heap.get? b = some { cls := .type "list", data := .seq ys m }) (hne : b ≠ l)
    (h3 : s.heap.IsSliceOf sl vl vu vs) (pl : IsPart vl none) (pu : IsPart vu (some 0)) (ps : IsPart vs none) (hz : xs.size + ys.size ≤ 1000000)
    (q : Q () { s with heap := s.heap.update l (Obj.mapSeq fun zs => zs.extract 0 (0 : Int).toNat ++ ys ++ zs.extract (max (0 : Int) 0).toNat zs.size) }) :
    wpAny (model prog w) A (setItem (.ref l) (.ref sl) (.ref b)) Q E s := by
  have t1 : s.TypeIs (.ref l) "list" := ⟨_, h1, rfl⟩
  have t2 : s.TypeIs (.ref b) "list" := ⟨_, h2, rfl⟩
  obtain ⟨os, g1, g2, g3⟩ := id h3
  have t3 : s.TypeIs (.ref sl) "slice" := ⟨os, g1, g2⟩
  unfold setItem
  try with_reducible refine wpAny_holding ?_
  first | refine wpAny_bind (wpAny_pure ?_) | skip
  refine wpAny_bind (wpAny_sequenceKey t1 (by decide) ?_)
  refine wpAny_bind (wpAny_callSpecial?_slot (name := Str.ofString "__setitem__") t1 PySem.F.slot_list_setitem
    (wpAny_call_entry PySem.F.slot_list_setitem t1 PySem.F.entry_list_setitem ?_ (PySem.args_list_setitem _ _ _)))
  show wpAny _ _ (Builtin.List.listSubscript? (.ref sl) >>= _) _ _ s
  unfold Builtin.List.listSubscript?
  refine wpAny_bind (wpAny_bind (wpAny_specialOf t3 slice_no_index ?_))
  simp only [Option.isNone_none, if_true]
  refine wpAny_pure ?_
  show wpAny _ _ (typeOf (.ref sl) >>= fun _ => _) _ _ s
  refine wpAny_bind (wpAny_typeOf t3 ?_)
  rw [if_neg (by decide)]
  rw [listSliceParts_eq]
  have hst : ¬ ((rawPart none == rawInt 0) = true) := Bool.false_ne_true
  refine wpAny_bind (wpAny_bind (wpAny_field g1 g3 (x := vs) rfl (wpAny_bind (wpAny_listPart ps ?_))))
  rw [if_neg hst]
  refine wpAny_bind (wpAny_field g1 g3 (x := vl) rfl (wpAny_bind (wpAny_listPart pl ?_)))
  refine wpAny_bind (wpAny_field g1 g3 (x := vu) rfl (wpAny_bind (wpAny_listPart pu (wpAny_pure ?_))))
  have hs : ¬ (Builtin.List.listSameRef (.ref l) (.ref b) = true) := fun k => hne (eq_of_beq k).symm
  rw [if_neg hs]
  refine wpAny_bind ?_
  unfold Builtin.List.listAllItems
  refine wpAny_bind (wpAny_typeOf t2 ?_)
  rw [if_pos (by decide)]
  unfold Builtin.List.listItems
  first
  | refine wpAny_bind (wpAny_bind (wpAny_seqItems h2 rfl (wpAny_pure (wpAny_pure ?_))))
  | refine wpAny_bind (wpAny_seqItems h2 rfl (wpAny_pure ?_))
  first
  | refine wpAny_bind (wpAny_bind (wpAny_seqItems h1 rfl (wpAny_pure ?_)))
  | refine wpAny_bind (wpAny_seqItems h1 rfl (wpAny_pure ?_))
  have hb : sliceBounds none (some 0) none xs.size = (0, 0, 1) := by simp [sliceBounds]; omega
  refine wpAny_bind (wpAny_of_eq (sliceIndices_raw none (some 0) none xs.size (by decide)) ?_)
  rw [hb]
  rw [if_pos (by decide)]
  refine wpAny_bind (wpAny_rule ?_)
  have hlong : ¬ (Builtin.List.listTooLong (xs.size + ys.size) = true) := by
    unfold Builtin.List.listTooLong
    rw [sizeLine_eq]
    simp
    omega
  rw [if_neg hlong]
  refine wpAny_bind ?_
  unfold Builtin.List.listUpdate
  refine wpAny_updateSeq h1 rfl ?_ (by rw [sizeLine_eq]; omega) (by rw [sizeLine_eq]; simp; omega)
  refine wpAny_bind ?_
  have he : (xs.extract ((0 : Int), (0 : Int), (1 : Int)).fst.toNat (max ((0 : Int), (0 : Int), (1 : Int)).fst ((0 : Int), (0 : Int), (1 : Int)).2.fst).toNat).toList.reverse = [] := by simp
  rw [he]
  exact wpAny_pure (wpAny_pure ⟨.none, rfl, wpAny_pure q⟩)
end
section
variable {X : Cx}
def gFront (to : TE) : TG := fun v σ H Q => to σ H fun x H1 => ∃ (l b : Addr) (xs ys : List V), x = .ref l ∧ v = .ref b ∧ H1 l = some (.lst xs) ∧ H1 b = some (.lst ys) ∧ b ≠ l ∧ xs.length + ys.length ≤ 1000000 ∧ Q σ (upd H1 l (.lst (ys ++ xs)))
theorem pg_front {o : Expr} {to : TE} {k : Nat} {p1 p3 pos : Pos} (ho : PE X o to)
    (ha : ∀ v, assign (.Subscript o (.Slice none (some (.Constant (.int 0) k p1)) none p3) pos) X.env v = (do
      let ov ← holding [v] (eval o X.env)
      let iv ← holding [v, ov] (eval (.Slice none (some (.Constant (.int 0) k p1)) none p3) X.env)
      standAt pos
      holding [v, ov, iv] (setItem ov iv v)
      release [iv, v, ov] []) := by intro _; rfl) : PG X (.Subscript o (.Slice none (some (.Constant (.int 0) k p1)) none p3) pos) (gFront to) := by
  refine ⟨fun pins s σ H v u Q I r h => ?_⟩
  rw [ha]
  refine wpAny_bind (wpAny_holding (thn (ho.run pins s σ H _ I h) fun ov s1 ⟨x, H1, I1, r1, q1⟩ => ?_))
  refine wpAny_bind (wpAny_holding ?_)
  have hst : PO X (some (.Constant (.int 0) k p1)) (tPart (tC (.int 0))) := po_some pe_int
  refine wpAny_Slice (thn (po_none.run pins s1 σ H1 (fun o H2 => o = none ∧ H2 = H1) I1 ⟨rfl, rfl⟩) fun vl s2 ⟨l0, H2, I2, pl, el, e2⟩ => ?_)
  subst el e2
  refine thn (hst.run pins s2 σ H2 (fun o H3 => o = some 0 ∧ H3 = H2) I2 ⟨0, rfl, rfl, rfl⟩) fun vu s3 ⟨u0, H3, I3, pu, eu, e3⟩ => ?_
  subst eu e3
  refine thn (po_none.run pins s3 σ H3 (fun o H4 => o = none ∧ H4 = H3) I3 ⟨rfl, rfl⟩) fun vs s4 ⟨st, H4, I4, ps, eo, e4⟩ => ?_
  subst eo e4
  obtain ⟨l, b, xs, ys, rfl, rfl, hl, hb, hne, hz, q⟩ := q1
  cases r1
  cases r
  have I5 : Inv X pins σ H4 { s4 with heap := s4.heap.push { cls := .type "slice", data := .fields #[vl, vu, vs] } } := I4.kept (t' := s4.toks) fun c ob z => Heap.get?_push_of_some _ z
  obtain ⟨its, n, rv, ho5, hz5⟩ := I5.lst hl
  obtain ⟨its2, n2, rv2, hb5, _⟩ := I5.lst hb
  have e1 := rv.length
  have e2 := rv2.length
  refine wpAny_bind (wpAny_standAt (wpAny_bind (wpAny_holding ?_)))
  refine setFront ho5 hb5 hne (Heap.IsSliceOf.new _ vl vu vs) pl pu ps (by rw [List.size_toArray, List.size_toArray]; omega) ?_
  refine wpAny_release ⟨σ, _, ?_, q⟩
  refine I5.lstUpd (its' := its2 ++ its) (n' := if ((its2 ++ its).toArray.size == its.toArray.size) = true then n else n + 1) hl ho5 ?_ (rv2.append rv) (by rw [List.length_append]; exact Ur.sz (by omega)) _
  have a1 : its.toArray.extract 0 (Int.toNat 0) = #[] := by simp
  have a2 : its.toArray.extract (max (0 : Int) 0).toNat its.toArray.size = its.toArray := by
    show its.toArray.extract 0 its.toArray.size = its.toArray
    simp
  have a3 : #[] ++ its2.toArray ++ its.toArray = (its2 ++ its).toArray := by simp
  have a4 : its.toArray.extract 0 (Int.toNat 0) ++ its2.toArray ++ its.toArray.extract (max (0 : Int) 0).toNat its.toArray.size = (its2 ++ its).toArray := by rw [a1, a2, a3]
  exact congrArg (fun z : Array Value => ({ cls := .type "list", data := .seq z (if (z.size == its.toArray.size) = true then n else n + 1) } : Obj)) a4
end
end UrS

namespace Ur
open PySem L2
/-! ### first places of a window -/
def firP (ns : List Int) (f b : Int) : List Int := ((List.range (b - f).toNat).filter fun k => decide (lp ns (f.toNat + k) < f)).map fun k => f + (k : Nat)
theorem firP_len {ns : List Int} {f b : Int} (h0 : 0 ≤ f) (h1 : f ≤ b) (h2 : b ≤ ns.length) : (firP ns f b).length = wun ns f b := by
  have e := ulen_win (ns := ns) (f := f.toNat) (b.toNat - f.toNat) (by omega)
  unfold firP
  rw [List.length_map]
  show _ = ulen ((ns.drop f.toNat).take (b.toNat - f.toNat))
  rw [e, show (b - f).toNat = b.toNat - f.toNat from by omega, Int.toNat_of_nonneg h0]
  have e2 : ((lastP ns).drop f.toNat).take (b.toNat - f.toNat) = (List.range (b.toNat - f.toNat)).map fun k => lp ns (f.toNat + k) := by
    refine List.ext_getElem? fun k => ?_
    rw [List.getElem?_take]
    by_cases hk : k < b.toNat - f.toNat
    · rw [if_pos hk, List.getElem?_drop, lastP_get (by omega), List.getElem?_map, List.getElem?_range hk]
      rfl
    · rw [if_neg hk, List.getElem?_eq_none (by rw [List.length_map, List.length_range]; omega)]
  rw [e2, List.filter_map, List.length_map]
  rfl
theorem fir_not {ns : List Int} {f k : Nat} (h : f + k < ns.length) : (!decide (ns.getD (f + k) 0 ∈ (ns.drop f).take k)) = decide (lp ns (f + k) < (f : Int)) := by
  have q := last_in h
  by_cases hl : lp ns (f + k) < (f : Int)
  · have hm : ¬ ns.getD (f + k) 0 ∈ (ns.drop f).take k := fun z => q.mp z hl
    rw [decide_eq_true hl, decide_eq_false hm]; rfl
  · have hm : ns.getD (f + k) 0 ∈ (ns.drop f).take k := q.mpr hl
    rw [decide_eq_false hl, decide_eq_true hm]; rfl
/-! ### frames but at some places -/
def ButL (L : Addr → Prop) (H H' : Hp) : Prop := ∀ b o, ¬ L b → H b = some o → H' b = some o
theorem ButL.refl {L : Addr → Prop} {H : Hp} : ButL L H H := fun _ _ _ e => e
theorem ButL.trans {L : Addr → Prop} {H H1 H2 : Hp} (s : ButL L H H1) (t : ButL L H1 H2) : ButL L H H2 := fun b o n e => t b o n (s b o n e)
theorem ButL.same {L : Addr → Prop} {H H' : Hp} (s : Same H H') : ButL L H H' := fun b o _ e => s b o e
theorem ButL.but {L : Addr → Prop} {H H' : Hp} {a : Addr} (s : But a H H') (l : L a) : ButL L H H' := fun b o n e => s b o (fun k => n (k ▸ l)) e
structure PairL (L : Addr → Prop) (H : Hp) (p : Addr) : Prop where
  both : ¬ L p ∧ ∃ (a b : Addr) (ns : List Int), ¬ L a ∧ ¬ L b ∧ H p = some (.lst [.ref a, .ref b]) ∧ H a = some (.lst (ns.map V.int)) ∧ H b = some (.lst (ns.map V.int))
structure HeldL (L : Addr → Prop) (h : Addr) (H : Hp) (n : Nat) : Prop where
  all : ∃ ps : List Addr, H h = some (.lst (ps.map V.ref)) ∧ ps.length ≤ n ∧ ∀ p ∈ ps, PairL L H p
theorem PairL.step {L : Addr → Prop} {p : Addr} {H H' : Hp} (k : PairL L H p) (b : ButL L H H') : PairL L H' p := by
  obtain ⟨n, x, y, ns, hx, hy, e, e1, e2⟩ := k.both
  exact ⟨n, x, y, ns, hx, hy, b _ _ n e, b _ _ hx e1, b _ _ hy e2⟩
theorem HeldL.step {L : Addr → Prop} {h : Addr} {H H' : Hp} {n : Nat} (k : HeldL L h H n) (b : ButL L H H') (hh : ∀ xs, H h = some (.lst xs) → H' h = some (.lst xs)) : HeldL L h H' n := by
  obtain ⟨ps, e, l, f⟩ := k.all
  exact ⟨ps, hh _ e, l, fun p hp => (f p hp).step b⟩
theorem HeldL.mono {L : Addr → Prop} {h : Addr} {H : Hp} {n m : Nat} (k : HeldL L h H n) (l : n ≤ m) : HeldL L h H m := by
  obtain ⟨ps, e, q, f⟩ := k.all
  exact ⟨ps, e, Nat.le_trans q l, f⟩
theorem HeldL.sub {L L' : Addr → Prop} {h : Addr} {H : Hp} {n : Nat} (k : HeldL L h H n) (l : ∀ b, L' b → L b) : HeldL L' h H n := by
  obtain ⟨ps, e, q, f⟩ := k.all
  refine ⟨ps, e, q, fun p hp => ?_⟩
  obtain ⟨n, x, y, ns, hx, hy, g⟩ := (f p hp).both
  exact ⟨fun z => n (l _ z), x, y, ns, fun z => hx (l _ z), fun z => hy (l _ z), g⟩
/-- .. of a place that is new, too -/
theorem HeldL.more {L : Addr → Prop} {h a : Addr} {H : Hp} {n : Nat} (k : HeldL L h H n) (ha : H a = none) : HeldL (fun x => L x ∨ x = a) h H n := by
  obtain ⟨ps, e, q, f⟩ := k.all
  refine ⟨ps, e, q, fun p hp => ?_⟩
  obtain ⟨n, x, y, ns, hx, hy, g1, g2, g3⟩ := (f p hp).both
  have ne : ∀ z (o : HO), H z = some o → z ≠ a := fun z o e1 e2 => by rw [e2, ha] at e1; cases e1
  exact ⟨fun z => z.elim n (ne _ _ g1), x, y, ns, fun z => z.elim hx (ne _ _ g2), fun z => z.elim hy (ne _ _ g3), g1, g2, g3⟩
end Ur
namespace Ur
open PySem L2
theorem Rdy.butL {C : Addr} {L L' : Addr → Prop} {H H' : Hp} {o : Addr} {ns : List Int} (r : Rdy C L H o ns) (l : ∀ b, L' b → L b) (s : ButL L' H H') : Rdy C L H' o ns := by
  obtain ⟨dx, la, na, e1, e2, e3, f⟩ := r.all
  exact ⟨dx, la, na, s _ _ (fun z => (f o (l _ z)).1 rfl) e1, s _ _ (fun z => (f la (l _ z)).2.1 rfl) e2, s _ _ (fun z => (f na (l _ z)).2.2 rfl) e3, f⟩
theorem HeldL.grow {L : Addr → Prop} {h p : Addr} {H H' : Hp} {n : Nat} {ps : List Addr} (l : ps.length ≤ n) (f : ∀ p ∈ ps, PairL L H p) (b : ButL L H H') (e : H' h = some (.lst ((ps ++ [p]).map V.ref))) (k : PairL L H' p) : HeldL L h H' (n + 1) :=
  ⟨ps ++ [p], e, by rw [List.length_append]; exact Nat.succ_le_succ l, fun q hq => by
    rcases List.mem_append.mp hq with z | z
    · exact (f q z).step b
    · rw [List.mem_singleton.mp z]; exact k⟩
theorem ButL.at_ {L : Addr → Prop} {H H' : Hp} {a : Addr} {o : HO} (s : ButL L H H') (l : L a) : ButL L H (upd H' a o) := fun b u n e => by
  have ne : b ≠ a := fun k => n (by rw [k]; exact l)
  rw [upd_ne ne]; exact s b u n e
theorem ButL.new {L : Addr → Prop} {H H' : Hp} {a : Addr} {o : HO} (s : ButL L H H') (na : H' a = none) : ButL L H (upd H' a o) := fun b u n e => by
  have e' := s b u n e
  rw [upd_ne (ne_of_none e' na)]; exact e'
end Ur
namespace Ur
open PySem L2
theorem PairL.more {L : Addr → Prop} {H : Hp} {p a : Addr} (k : PairL L H p) (ha : H a = none) : PairL (fun x => L x ∨ x = a) H p := by
  obtain ⟨n, x, y, ns, hx, hy, g1, g2, g3⟩ := k.both
  have ne : ∀ z (o : HO), H z = some o → z ≠ a := fun z o e1 e2 => by rw [e2, ha] at e1; cases e1
  exact ⟨fun z => z.elim n (ne _ _ g1), x, y, ns, fun z => z.elim hx (ne _ _ g2), fun z => z.elim hy (ne _ _ g3), g1, g2, g3⟩
theorem ButL.out {L : Addr → Prop} {H H' : Hp} {a : Addr} (s : ButL (fun x => L x ∨ x = a) H H') (ha : H a = none) : ButL L H H' := fun b o n e =>
  s b o (fun z => z.elim n (fun k => by rw [k, ha] at e; cases e)) e
theorem wun_le {ns : List Int} {f b : Int} : wun ns f b ≤ ns.length := by
  refine Nat.le_trans (ulen_le _) ?_
  unfold win
  rw [List.length_take, List.length_drop]
  omega
end Ur

namespace Ur
open PySem L2
/-! ### xs[l:u:c], c above 0 -/
def tStep3 (K : PySem.W.Frag) (te tl tu tc : TE) : TE := fun σ H Q => te σ H fun x H1 => tPart tl σ H1 fun l H2 => tPart tu σ H2 fun u H3 => tPart tc σ H3 fun c H4 =>
  ∃ a xs c', x = .ref a ∧ c = some c' ∧ 0 < c' ∧ SqL K H4 a xs ∧ ∀ p ys, (∀ y ∈ ys, y ∈ xs) → ys.length ≤ xs.length → H4 p = none → Q (.ref p) (upd H4 p (.lst ys))
open PySem.Spec PyProof.Rows in
theorem pe_step3 {X : Cx} {e el eu ec : Expr} {te tl tu tc : TE} {p3 pos : Pos} (he : PE X e te) (hl : PE X el tl) (hu : PE X eu tu) (hc : PE X ec tc) : PE X (.Subscript e (.Slice (some el) (some eu) (some ec) p3) pos) (tStep3 X.K te tl tu tc) := by
  refine ⟨fun pins s σ H Q I h => ?_⟩
  refine Subscript_ (thn (he.run pins s σ H _ I h) fun v s1 ⟨x, H1, I1, r1, q1⟩ => ?_)
  refine wpAny_Slice (thn ((po_some hl).run pins s1 σ H1 _ I1 q1) fun vl s2 ⟨l, H2, I2, pl, q2⟩ => ?_)
  refine thn ((po_some hu).run pins s2 σ H2 _ I2 q2) fun vu s3 ⟨u, H3, I3, pu, q3⟩ => ?_
  refine thn ((po_some hc).run pins s3 σ H3 _ I3 q3) fun vs s4 ⟨c, H4, I4, ps, q4⟩ => ?_
  obtain ⟨a, xs, c', rfl, rfl, hpos, hx, q⟩ := q4
  cases r1
  have I5 : Inv X pins σ H4 { s4 with heap := s4.heap.push { cls := .type "slice", data := .fields #[vl, vu, vs] } } := I4.kept (t' := s4.toks) fun b ob z => Heap.get?_push_of_some _ z
  obtain ⟨its, r, ht, hz⟩ := I5.list hx
  have hlen := r.length
  show wpAny (model X.prog X.w) X.A (subscriptTail e (.Slice (some el) (some eu) (some ec) p3) (.ref a) (.ref s4.heap.objs.size)) (EP X pins σ Q) X.xe { s4 with heap := s4.heap.push { cls := .type "slice", data := .fields #[vl, vu, vs] } }
  refine tail_any (ops := [.ref a, .ref s4.heap.objs.size]) ht.isList.typeIs (PySem.slot_list_getitem.lookup) ?_ (by with_unfolding_all rfl)
  refine wpAny_getItem_list_slice ht.isList (Heap.IsSliceOf.new _ vl vu vs) pl pu ps (fun k => by cases k; omega) ?_ (by rw [List.size_toArray]; omega)
  have hid : ∀ n : Nat, (sliceRange (sliceBounds l u (some c') n).1 (sliceBounds l u (some c') n).2.1 (sliceBounds l u (some c') n).2.2).length ≤ n := fun n => by
    have e1 : (sliceBounds l u (some c') n).2.2 = c' := rfl
    refine sliceRange_length_le _ _ _ n (fun _ => ⟨?_, ?_⟩) (fun k => absurd (by rw [e1]; exact hpos) k)
    · unfold sliceBounds
      cases l with
      | none => simp [hpos]
      | some i => simp [hpos]; omega
    · unfold sliceBounds
      cases u with
      | none => simp [hpos]
      | some i => simp [hpos]; omega
  have hid2 := hid its.toArray.size
  unfold slicePick
  generalize hI : sliceRange (sliceBounds l u (some c') its.toArray.size).1 (sliceBounds l u (some c') its.toArray.size).2.1 (sliceBounds l u (some c') its.toArray.size).2.2 = ids at hid2
  have hv := vals_pick r ids
  have hly : (ids.filterMap fun i => xs[i]?).length ≤ xs.length := by
    refine Nat.le_trans (List.length_filterMap_le _ _) ?_
    rw [List.size_toArray] at hid2
    omega
  refine ⟨.ref _, _, I5.laid (t' := s4.toks) (o := .lst (ids.filterMap fun i => xs[i]?)) (fun b ob z => Heap.get?_push_of_some _ z) (Nat.le_refl _) ?_, rfl, q _ _ (fun y hy => ?_) hly (I5.hok.fresh (Nat.le_refl _))⟩
  · exact ⟨by omega, _, 0, hv, Heap.get?_push_size _ rfl⟩
  · obtain ⟨i, _, e⟩ := List.mem_filterMap.mp hy
    exact List.mem_of_getElem? e
end Ur

/-! list(reversed(l)), l a list: a new list -/
namespace UrV
open PySem PySem.W PySem.Calls PyProof.Rows RT
section
variable {prog : Program} {w : World} {A : Around} {E : Value → Shared → Prop} {s : Shared}
theorem rv_extend {R : Result → Shared → Prop} {it l S : Addr} {items : Array Value} (hh : A.handled = none) (hit : s.heap.IsRevIter it l ((items.size : Int) - 1)) (hl : s.heap.IsList l items) (hne : l ≠ it) (hn : items.size ≤ sizeLine) (hSi : S ≠ it) (hSl : S ≠ l) (res : Value) (c₀ : Nat)
    (hS : s.heap.get? S = some { cls := .type "list", data := .seq #[] c₀ })
    (hR : ∀ h' tk acc c, (∀ b o, b ≠ S → b ≠ it → s.heap.get? b = some o → h'.get? b = some o) → h'.get? S = some { cls := .type "list", dict := none, data := .seq acc c, slots := #[] } → ItemsOf (fun i v => items[items.size - 1 - i]? = some v) acc items.size → R (.ok (.ret res)) { s with heap := h', toks := tk }) :
    wpAny (model prog w) A.in1 (Builtin.List.listExtendWith (.ref S) (.ref it) res)
      (fun fin s' => match fin with | .done f => R (.ok f) s' | .again c' => c'.quiet = true ∧ codeAny (model prog w) A c' R s') (fun e s' => R (.error e) s') s := by
  have W := (Walks.listRev (prog := prog) (w := w) (A := A.in1) hh it l hne items).toS
  have hSf : S ∉ [it, l] := by simp only [List.mem_cons, List.not_mem_nil, or_false, not_or]; exact ⟨hSi, hSl⟩
  have hT : s.TypeIs (.ref it) "list_reverseiterator" := Heap.IsRevIter.typeIs hit
  have h1 : Builtin.List.listSameRef (.ref S) (.ref it) = false := by simp [Builtin.List.listSameRef, hSi]
  unfold Builtin.List.listExtendWith
  refine wpAny_bind (wpAny_typeOf hT ?_)
  rw [if_neg (by rw [h1]; decide)]
  refine wpAny_bind (wpAny_pyIter_revIter hit ?_)
  refine wpAny_bind (wpAny_holding ?_)
  unfold Builtin.List.listLengthHint
  refine wpAny_bind (wpAny_specialOf hT nolen_lri ?_)
  show wpAny _ A.in1 (specialOf (Value.ref it) (Str.ofString "__length_hint__") >>= _) _ _ _
  refine wpAny_bind (wpAny_specialOf hT hint_lri ?_)
  generalize hid : ("list_reverseiterator.__length_hint__" : String) = id0
  wp_delta
  rw [show splitId id0 = some ("list_reverseiterator", "__length_hint__") from by subst hid; decide +kernel]
  subst hid
  refine wpAny_bind (wpAny_isInstance (b := true) hT (by rw [isSubtype_type]; kernel_rfl) ?_)
  refine wpAny_pure ?_
  rw [if_neg (by decide)]
  have e0 : ((items.size : Nat) : Int) - 1 - ((0 : Nat) : Int) = (items.size : Int) - 1 := by omega
  refine wpAny_pure ⟨plainId_quiet PySem.F.plain_extend_loop _, codeAny_extend_loopS W hn _ hSf _ items.size 0 _ _ _ rfl (Nat.zero_le _) ⟨Nat.zero_le _, by rw [e0]; exact hit, hl⟩ hS (ItemsOf.nil _) fun s' acc' c' hm hS' hacc => ?_⟩
  rw [Moved.eq_with hm]
  refine hR s'.heap s'.toks acc' c' (fun b o hb1 hb2 e => hm.heap b o (fun hmem => ?_) e) hS' hacc
  rcases List.mem_cons.mp hmem with e' | hmem
  · exact hb1 e'
  · exact hb2 (List.mem_singleton.mp hmem)
theorem call_list_rev {it l : Addr} {items : Array Value} {Q : Value → Shared → Prop} (hh : A.handled = none) (hit : s.heap.IsRevIter it l ((items.size : Int) - 1)) (hl : s.heap.IsList l items) (hne : l ≠ it) (hn : items.size ≤ sizeLine)
    (hQ : ∀ (h' : Heap) (tk c : Nat) (acc : Array Value), (∀ b o, b ≠ it → s.heap.get? b = some o → h'.get? b = some o) → ItemsOf (fun i v => items[items.size - 1 - i]? = some v) acc items.size →
      h'.get? s.heap.objs.size = some { cls := .type "list", dict := none, data := .seq acc c, slots := #[] } → Q (.ref s.heap.objs.size) { s with heap := h', toks := tk }) :
    wpAny (model prog w) A (call (.type "list") [.ref it]) Q E s := by
  refine callType_codes (Q₁ := fun obj s₁ => obj = .ref s.heap.objs.size ∧ s₁ = { s with heap := s.heap.push { cls := .type "list", data := .seq #[] } }) PySem.F.called_list (PySem.F.typeCall_list_1 _) PySem.F.entry_list_init
    (code_list_new _ ⟨rfl, rfl⟩) fun obj s₁ h₁ => ?_
  obtain ⟨rfl, rfl⟩ := h₁
  have hS : (s.heap.push { cls := .type "list", data := .seq #[] }).get? s.heap.objs.size = some { cls := .type "list", data := .seq #[] } := Heap.get?_push_size _ rfl
  have hil : it < s.heap.objs.size := let ⟨_, z, _⟩ := hit; Heap.lt_size z
  have hll : l < s.heap.objs.size := let ⟨_, z, _⟩ := hl; Heap.lt_size z
  refine ⟨⟨_, hS, rfl⟩, PySem.F.args_list_init_2 _ _, ?_⟩
  show wpAny _ _ (do let old ← Builtin.List.listItems (.ref s.heap.objs.size); Builtin.List.listUpdate (.ref s.heap.objs.size) (fun _ => #[]); letGo old.toList.reverse; Builtin.List.listExtendWith (.ref s.heap.objs.size) (.ref it) .none) _ _ _
  refine wpAny_bind ?_
  unfold Builtin.List.listItems
  refine wpAny_bind (wpAny_seqItems hS rfl (wpAny_pure ?_))
  show wpAny _ _ (updateSeq s.heap.objs.size (fun _ => #[]) >>= fun _ => letGo (#[] : Array Value).toList.reverse >>= fun _ => Builtin.List.listExtendWith (.ref s.heap.objs.size) (.ref it) .none) _ _ _
  refine wpAny_bind (wpAny_updateSeq hS rfl ?_)
  have hS₂ := Heap.get?_update_self (Obj.mapSeq (fun _ => (#[] : Array Value))) hS rfl
  have oth : ∀ b o, s.heap.get? b = some o → ((s.heap.push { cls := .type "list", data := .seq #[] }).update s.heap.objs.size (Obj.mapSeq (fun _ => (#[] : Array Value)))).get? b = some o :=
    fun b o z => (Heap.get?_update_other _ _ (Nat.ne_of_gt (Heap.lt_size z))).trans (Heap.get?_push_of_some _ z)
  refine wpAny_bind (wpAny_letGo ?_)
  refine rv_extend (A := A.in1) hh (hit.at fun o z => oth it o z) (hl.at fun o z => oth l o z) hne hn (Nat.ne_of_gt hil) (Nat.ne_of_gt hll) .none _ hS₂ fun h' tk acc c hk hS' hacc => ?_
  exact ⟨rfl, hQ h' tk c acc (fun b o h1 z => hk b o (Nat.ne_of_lt (Heap.lt_size z)) h1 (oth b o z)) hacc hS'⟩
end
open PySem.Spec L2
def tListRev (K : PySem.W.Frag) (te : TE) : TE := fun σ H Q => te σ H fun v H1 => ∃ (a : Addr) (xs : List V), v = .ref a ∧ SqL K H1 a xs ∧ ∀ q, H1 q = none → Q (.ref q) (upd H1 q (.lst xs.reverse))
theorem pe_listRev {X : Cx} {K : PySem.W.Frag} {e : Expr} {te : TE} {p p2 pos pos2 : Pos} (hk : X.K = K) (hc : X.calm = true) (hm : X.mg "list" = none) (hm2 : X.mg "reversed" = none) (he : PE X e te) (hg : Gl X "list" := by rfl) (hg2 : Gl X "reversed" := by rfl)
    (hs : starEach [e] X.env = (false, eval e X.env) :: starEach [] X.env := by rfl)
    (hs2 : starEach [.Call (.Name "reversed" p2) [e] [] pos2] X.env = (false, eval (.Call (.Name "reversed" p2) [e] [] pos2) X.env) :: starEach [] X.env := by rfl) :
    PE X (.Call (.Name "list" p) [.Call (.Name "reversed" p2) [e] [] pos2] [] pos) (tListRev K te) := by
  subst hk
  refine ⟨fun pins s σ H Q I h => ?_⟩
  refine Call_ (ld_blt I hg hm boot_list (PyProof.Rows.callWith_type1 (args_cons (Call_ (ld_blt I hg2 hm2 PyProof.Rows.boot_reversed (PyProof.Rows.callWith_type1 (args_cons (thn (he.run pins s σ H _ I h) fun u s1 ⟨v, H1, I1, r1, q1⟩ => args_nil ?_) hs) hs rfl))) hs2) hs2 rfl))
  obtain ⟨a, xs, ev, hq, q⟩ := q1
  subst ev
  obtain rfl : u = Value.ref a := r1
  obtain ⟨its, rv, p', hz⟩ := I1.list hq
  refine call_reversed_list p'.isList (args_nil ?_)
  have hl := p'.isList
  obtain ⟨ol, hol, _⟩ := id hl
  have hne : a ≠ s1.heap.objs.size := Nat.ne_of_lt (Heap.lt_size hol)
  have hn : its.toArray.size ≤ sizeLine := by rw [List.size_toArray, ← rv.length]; exact hz
  refine call_list_rev (s := { s1 with heap := s1.heap.push (revObj a ((its.toArray.size : Int) - 1)) }) (I1.ok.hd hc) ⟨_, Heap.get?_push_size _ rfl, rfl, rfl⟩ (hl.push _) hne hn fun h' tk c acc hk hi hS => ?_
  have hsz : (s1.heap.push (revObj a ((its.toArray.size : Int) - 1))).objs.size = s1.heap.objs.size + 1 := Heap.size_push _ _
  have hsz1 : s1.heap.objs.size ≤ (s1.heap.push (revObj a ((its.toArray.size : Int) - 1))).objs.size := by omega
  refine ⟨.ref _, upd H1 _ (.lst xs.reverse), I1.laid (t' := tk) (fun b o e => hk b o (Nat.ne_of_lt (Heap.lt_size e)) (Heap.get?_push_of_some _ e)) hsz1 (show ObjOk X.prog X.w _ _ _ (.lst xs.reverse) from ⟨by rw [List.length_reverse]; exact hz, acc.toList, c, vals_rev rv hi, ?_⟩), rfl, q _ (I1.hok.fresh hsz1)⟩
  rw [Array.toArray_toList]
  exact hS
end UrV

namespace Ur
open PySem L2
/-! ### windows of one width -/
/-- how many unlike numbers all windows of a width have -/
def ofW (ns : List Int) (w : Nat) : List Int := (List.range (ns.length + 1 - w)).map fun f => (wunN ns f (f + w) : Int)
theorem ofW_len (ns : List Int) (w : Nat) : (ofW ns w).length = ns.length + 1 - w := by simp [ofW]
theorem ofW_get {ns : List Int} {w f : Nat} (h : f + w ≤ ns.length) : (ofW ns w)[f]? = some (wunN ns f (f + w) : Int) := by
  unfold ofW
  rw [List.getElem?_map, List.getElem?_range (by omega)]
  rfl
theorem ofW_getD {ns : List Int} {w f : Nat} (h : f + w ≤ ns.length) : (ofW ns w).getD f 0 = (wunN ns f (f + w) : Int) := getD_of (ofW_get h)
/-- a window one further on -/
theorem wunN_slide {ns : List Int} {f w : Nat} (h : f + w < ns.length) : (wunN ns (f + 1) (f + 1 + w) : Int) = (wunN ns f (f + w) : Int) - (if ((f + w : Nat) : Int) ≤ nx ns f then 1 else 0) + (if lp ns (f + w) ≤ (f : Int) then 1 else 0) := by
  rcases Nat.eq_zero_or_pos w with rfl | hw
  · have h1 := lp_range ns f
    have e1 : ((f + 0 : Nat) : Int) ≤ nx ns f := by
      unfold nx
      rcases nextUp_spec ns f ns.length (Nat.le_refl _) with ⟨e, _⟩ | ⟨v, e, h1, _⟩ <;> rw [e] <;> omega
    simp only [Nat.add_zero] at e1 ⊢
    rw [wunN_none, wunN_none, if_pos e1, if_pos (show lp ns f ≤ (f : Int) by omega)]
    rfl
  · have d := wunN_down (ns := ns) (p := f) (b := f + w) (by omega) (by omega)
    have u := wunN_up (ns := ns) (f := f + 1) (b := f + w) (by omega) h
    rw [show f + w + 1 = f + 1 + w from by omega] at u
    rw [u, d]
    have e : (lastAt ns (f + w) (ns.getD (f + w) 0) < ((f + 1 : Nat) : Int)) = (lp ns (f + w) ≤ (f : Int)) := by
      unfold lp
      exact propext ⟨fun h => by omega, fun h => by omega⟩
    show ((_ + (if lastAt ns (f + w) (ns.getD (f + w) 0) < ((f + 1 : Nat) : Int) then 1 else 0) : Nat) : Int) = _
    simp only [e]
    show _ = ((_ + (if ((f + w : Nat) : Int) ≤ nextUp ns f ns.length then 1 else 0) : Nat) : Int) - (if ((f + w : Nat) : Int) ≤ nextUp ns f ns.length then 1 else 0) + _
    (repeat' split) <;> omega
/-- the sums for each width -/
def sumsW (ns : List Int) : List Int := (List.range (ns.length + 1)).map fun w => (ofW ns w).sum
/-- a line of the law's table: the windows from f on -/
def lineW (ns : List Int) (f : Nat) : List Int := (List.range (ns.length - f + 1)).map fun k => (wunN ns f (f + k) : Int)
theorem lineW_len (ns : List Int) (f : Nat) : (lineW ns f).length = ns.length - f + 1 := by simp [lineW]
theorem lineW_get {ns : List Int} {f k : Nat} (h : k < ns.length - f + 1) : (lineW ns f)[k]? = some (wunN ns f (f + k) : Int) := by
  unfold lineW
  rw [List.getElem?_map, List.getElem?_range h]
  rfl
theorem lineW_getD {ns : List Int} {f k : Nat} (h : k < ns.length - f + 1) : (lineW ns f).getD k 0 = (wunN ns f (f + k) : Int) := getD_of (lineW_get h)
/-- what is due of a width, behind the lines ahead of f and k numbers of the line f -/
def dueW (ns : List Int) (f k w : Nat) : Int := sumTo (fun g => if g + w ≤ ns.length then (wunN ns g (g + w) : Int) else 0) f + if w < k then (wunN ns f (f + w) : Int) else 0
theorem dueW_up {ns : List Int} {f w : Nat} (hf : f ≤ ns.length) : dueW ns f (ns.length - f + 1) w = dueW ns (f + 1) 0 w := by
  unfold dueW
  show _ = sumTo _ f + (if f + w ≤ ns.length then (wunN ns f (f + w) : Int) else 0) + 0
  by_cases h : w < ns.length - f + 1
  · rw [if_pos h, if_pos (by omega)]; omega
  · rw [if_neg h, if_neg (by omega)]; omega
theorem dueW_end {ns : List Int} {w : Nat} (hw : w ≤ ns.length) : dueW ns (ns.length + 1) 0 w = (ofW ns w).sum := by
  unfold dueW ofW
  rw [sum_range, sumTo_cut _ (show ns.length + 1 - w ≤ ns.length + 1 by omega)]
  rw [show (if w < 0 then (wunN ns (ns.length + 1) (ns.length + 1 + w) : Int) else 0) = 0 from rfl, Int.add_zero]
  exact sumTo_congr fun g hg => by
    by_cases h : g + w ≤ ns.length
    · rw [if_pos h, if_pos (by omega)]
    · rw [if_neg h, if_neg (by omega)]
/-! ### told things that are held, each a tuple of two lists of the same ints -/
structure PairT (h : Addr) (H : Hp) (p : Addr) : Prop where
  both : ∃ (a b : Addr) (ns : List Int), a ≠ h ∧ b ≠ h ∧ p ≠ h ∧ H p = some (.tup [.ref a, .ref b]) ∧ H a = some (.lst (ns.map V.int)) ∧ H b = some (.lst (ns.map V.int))
structure HeldT (h : Addr) (H : Hp) (n : Nat) : Prop where
  all : ∃ ps : List Addr, H h = some (.lst (ps.map V.ref)) ∧ ps.length ≤ n ∧ ∀ p ∈ ps, PairT h H p
theorem PairT.step {h p : Addr} {H H' : Hp} (k : PairT h H p) (b : But h H H') : PairT h H' p := by
  obtain ⟨x, y, ns, hx, hy, hp, e, e1, e2⟩ := k.both
  exact ⟨x, y, ns, hx, hy, hp, b _ _ hp e, b _ _ hx e1, b _ _ hy e2⟩
theorem HeldT.same {h : Addr} {H H' : Hp} {n : Nat} (k : HeldT h H n) (s : Same H H') : HeldT h H' n := by
  obtain ⟨ps, e, l, f⟩ := k.all
  exact ⟨ps, s _ _ e, l, fun p hp => (f p hp).step (Same.but s)⟩
theorem HeldT.snoc {h p : Addr} {H H' : Hp} {m n : Nat} {ps : List Addr} (e : H h = some (.lst (ps.map V.ref))) (l : ps.length ≤ n) (f : ∀ p ∈ ps, PairT h H p) (b : But h H H') (e' : H' h = some (.lst (ps.map V.ref ++ [V.ref p]))) (g : PairT h H' p) (hm : n + 1 ≤ m) : HeldT h H' m :=
  ⟨ps ++ [p], by rw [e', List.map_append]; rfl, by rw [List.length_append]; exact Nat.le_trans (Nat.succ_le_succ l) hm, fun q hq => by
    rcases List.mem_append.mp hq with k | k
    · exact (f q k).step b
    · rw [List.mem_singleton.mp k]; exact g⟩
end Ur
namespace Ur
open PySem L2
theorem putK_same {kvs : List (Key × V)} {k : Key} {v : V} (h : (valV kvs k).isSome = true) : (putK kvs k v).length = kvs.length := by
  have e : (kvs.any fun kv => decide (kv.1 = k)) = true := (valV_any k kvs).trans h
  unfold putK
  rw [e, if_pos rfl, List.length_map]
theorem putK_none {kvs : List (Key × V)} {k : Key} {v : V} (h : (valV kvs k).isSome = false) : (putK kvs k v).length = kvs.length + 1 :=
  putK_len (Option.not_isSome_iff_eq_none.mp (by rw [h]; exact Bool.false_ne_true))
/-- a dict of the ints that were met -/
structure Met (kvs : List (Key × V)) (W : List Int) : Prop where
  has : ∀ z : Int, (valV kvs (Sum.inl z)).isSome = decide (z ∈ W)
  len : kvs.length = ulen W
theorem Met.nil : Met [] [] := ⟨fun z => by simp [valV_nil], rfl⟩
theorem Met.put {kvs : List (Key × V)} {W : List Int} (m : Met kvs W) (x : Int) (v : V) : Met (putK kvs (Sum.inl x) v) (W ++ [x]) := by
  refine ⟨fun z => ?_, ?_⟩
  · rw [val_put]
    by_cases h : z = x
    · subst h; simp
    · rw [if_neg h, m.has]; simp [h]
  · rw [ulen_snoc]
    by_cases h : x ∈ W
    · rw [if_pos h, putK_same (by rw [m.has]; exact decide_eq_true h), m.len]
    · rw [if_neg h, putK_none (by rw [m.has]; exact decide_eq_false h), m.len]
end Ur
namespace Ur
open PySem L2
/-- what is due of all widths -/
def dueL (ns : List Int) (f k : Nat) : List Int := (List.range (ns.length + 1)).map (dueW ns f k)
theorem dueL_len (ns : List Int) (f k : Nat) : (dueL ns f k).length = ns.length + 1 := by simp [dueL]
theorem dueL_get {ns : List Int} {f k w : Nat} (h : w < ns.length + 1) : (dueL ns f k)[w]? = some (dueW ns f k w) := by
  unfold dueL
  rw [List.getElem?_map, List.getElem?_range h]
  rfl
theorem dueL_0 (ns : List Int) : dueL ns 0 0 = List.replicate (ns.length + 1) 0 := by
  refine List.ext_getElem? fun w => ?_
  by_cases h : w < ns.length + 1
  · rw [dueL_get h, List.getElem?_replicate, if_pos h]
    rfl
  · rw [List.getElem?_eq_none (by rw [dueL_len]; omega), List.getElem?_eq_none (by rw [List.length_replicate]; omega)]
theorem dueL_set {ns : List Int} {f k : Nat} (h : k < ns.length - f + 1) : (dueL ns f k).set k ((dueL ns f k).getD k 0 + (lineW ns f).getD k 0) = dueL ns f (k + 1) := by
  refine List.ext_getElem? fun w => ?_
  by_cases hw : w < ns.length + 1
  · rw [List.getElem?_set, dueL_len, dueL_get hw, dueL_get hw, getD_of (dueL_get (show k < ns.length + 1 by omega)), lineW_getD h]
    unfold dueW
    by_cases e : k = w
    · subst e
      rw [if_pos rfl, if_pos (by omega), if_neg (Nat.lt_irrefl _), if_pos (Nat.lt_succ_self _)]
      simp
    · rw [if_neg e]
      by_cases c : w < k
      · rw [if_pos c, if_pos (by omega)]
      · rw [if_neg c, if_neg (by omega)]
  · rw [List.getElem?_eq_none (by rw [List.length_set, dueL_len]; omega), List.getElem?_eq_none (by rw [dueL_len]; omega)]
theorem dueL_up {ns : List Int} {f : Nat} (hf : f ≤ ns.length) : dueL ns f (ns.length - f + 1) = dueL ns (f + 1) 0 :=
  List.map_congr_left fun _ _ => dueW_up hf
theorem dueL_end (ns : List Int) : dueL ns (ns.length + 1) 0 = sumsW ns :=
  List.map_congr_left fun _ h => dueW_end (by have := List.mem_range.mp h; omega)
theorem sumsW_len (ns : List Int) : (sumsW ns).length = ns.length + 1 := by simp [sumsW]
end Ur

namespace Ur
open PySem PySem.Spec PyProof.Rows L2
/-- xs[i], by values: for xs[i] += e -/
theorem get_list {X : Cx} : PGet X (rIxL X.K) := by
  intro pins s σ H x y v u Q I rx ry h
  obtain ⟨p, xs, i, z, rfl, rfl, hq, he, q⟩ := h
  cases rx
  obtain ⟨t, rfl⟩ := ry
  obtain ⟨its, r, pl, hz⟩ := I.list hq
  obtain ⟨j, h1, h2, h3, h4, h5⟩ := atI_get he
  obtain ⟨w, ew, rw'⟩ := r.get h2
  have hl := r.length
  have hn := line63
  have fin : EP X pins σ Q w s := ⟨z, H, I, rw', q⟩
  by_cases h0 : 0 ≤ i
  · have hj : i.toNat = j := by
      rw [seqIndex_of h0 h5] at h1
      exact Option.some.inj h1
    exact wpAny_getItem_list pl.isList h0 (by omega) (by rw [hj]; simpa using ew) fin
  · have hj : (i + (its.toArray.size : Int)).toNat = j := by
      rw [seqIndex_neg (by omega) h4] at h1
      rw [List.size_toArray, ← hl]
      exact Option.some.inj h1
    exact wpAny_getItem_list_neg pl.isList (by omega) (by rw [List.size_toArray] <;> omega) (by omega) (by rw [hj]; simpa using ew) fin
end Ur

namespace Ur
open PySem L2
/-! ### things of a known kind -/
def Kind (H : Hp) (v : V) : Prop :=
  (∃ i, v = .int i) ∨ (∃ b, v = .bl b) ∨ (∃ x, v = .str x) ∨ v = .non ∨ (∃ p xs, v = .ref p ∧ H p = some (.lst xs)) ∨ (∃ p xs, v = .ref p ∧ H p = some (.tup xs)) ∨ ∃ p kvs, v = .ref p ∧ H p = some (.dK kvs)
theorem Kind.int {H : Hp} {i : Int} : Kind H (.int i) := .inl ⟨i, rfl⟩
theorem Kind.bl {H : Hp} {b : Bool} : Kind H (.bl b) := .inr (.inl ⟨b, rfl⟩)
theorem Kind.str {H : Hp} {x : Str} : Kind H (.str x) := .inr (.inr (.inl ⟨x, rfl⟩))
theorem Kind.non {H : Hp} : Kind H .non := .inr (.inr (.inr (.inl rfl)))
theorem Kind.lst {H : Hp} {p : Addr} {xs : List V} (e : H p = some (.lst xs)) : Kind H (.ref p) := .inr (.inr (.inr (.inr (.inl ⟨p, xs, rfl, e⟩))))
theorem Kind.tup {H : Hp} {p : Addr} {xs : List V} (e : H p = some (.tup xs)) : Kind H (.ref p) := .inr (.inr (.inr (.inr (.inr (.inl ⟨p, xs, rfl, e⟩)))))
theorem Kind.dct {H : Hp} {p : Addr} {kvs : List (Key × V)} (e : H p = some (.dK kvs)) : Kind H (.ref p) := .inr (.inr (.inr (.inr (.inr (.inr ⟨p, kvs, rfl, e⟩)))))
theorem Kind.same {H H' : Hp} {v : V} (k : Kind H v) (s : Same H H') : Kind H' v := by
  rcases k with ⟨i, rfl⟩ | ⟨b, rfl⟩ | ⟨x, rfl⟩ | rfl | ⟨p, xs, rfl, e⟩ | ⟨p, xs, rfl, e⟩ | ⟨p, xs, rfl, e⟩
  · exact .int
  · exact .bl
  · exact .str
  · exact .non
  · exact .lst (s _ _ e)
  · exact .tup (s _ _ e)
  · exact .dct (s _ _ e)
theorem Kind.but {a : Addr} {H H' : Hp} {v : V} (k : Kind H v) (b : But a H H') (h : v ≠ .ref a) : Kind H' v := by
  rcases k with ⟨i, rfl⟩ | ⟨c, rfl⟩ | ⟨x, rfl⟩ | rfl | ⟨p, xs, rfl, e⟩ | ⟨p, xs, rfl, e⟩ | ⟨p, xs, rfl, e⟩
  · exact .int
  · exact .bl
  · exact .str
  · exact .non
  · exact .lst (b _ _ (fun z => h (by rw [z])) e)
  · exact .tup (b _ _ (fun z => h (by rw [z])) e)
  · exact .dct (b _ _ (fun z => h (by rw [z])) e)
/-- a fact laid aside -/
structure Bx (P : Prop) : Prop where
  out : P
theorem nwA {H : Hp} {x p : Addr} {o : HO} (h : H x = some o) (n : H p = none) : x ≠ p := fun e => by rw [e, n] at h; cases h
/-! ### told things that are held, each a tuple of two lists of the same ints, none of them there in B -/
/-- no place of B -/
structure NoneIn (B : Hp) (x : Addr) : Prop where
  out : B x = none
structure PairN (B : Hp) (h : Addr) (H : Hp) (p : Addr) : Prop where
  both : ∃ (a b : Addr) (ns : List Int), a ≠ h ∧ b ≠ h ∧ p ≠ h ∧ NoneIn B a ∧ NoneIn B b ∧ NoneIn B p ∧ H p = some (.tup [.ref a, .ref b]) ∧ H a = some (.lst (ns.map V.int)) ∧ H b = some (.lst (ns.map V.int))
structure HeldN (B : Hp) (h : Addr) (H : Hp) (n : Nat) : Prop where
  all : ∃ ps : List Addr, H h = some (.lst (ps.map V.ref)) ∧ ps.length ≤ n ∧ ∀ p ∈ ps, PairN B h H p
theorem PairN.step {B : Hp} {h p : Addr} {H H' : Hp} (k : PairN B h H p) (b : But h H H') : PairN B h H' p := by
  obtain ⟨x, y, ns, hx, hy, hp, k1, k2, k3, e, e1, e2⟩ := k.both
  exact ⟨x, y, ns, hx, hy, hp, k1, k2, k3, b _ _ hp e, b _ _ hx e1, b _ _ hy e2⟩
theorem HeldN.same {B : Hp} {h : Addr} {H H' : Hp} {n : Nat} (k : HeldN B h H n) (s : Same H H') : HeldN B h H' n := by
  obtain ⟨ps, e, l, f⟩ := k.all
  exact ⟨ps, s _ _ e, l, fun p hp => (f p hp).step (Same.but s)⟩
theorem HeldN.le {B : Hp} {h : Addr} {H : Hp} {n m : Nat} (k : HeldN B h H n) (l : n ≤ m) : HeldN B h H m := by
  obtain ⟨ps, e, l', f⟩ := k.all
  exact ⟨ps, e, Nat.le_trans l' l, f⟩
/-- another object changes, that was there in B -/
theorem HeldN.other {B : Hp} {h a : Addr} {H H' : Hp} {n : Nat} {o : HO} (k : HeldN B h H n) (b : But a H H') (e : B a = some o) (ne : h ≠ a) : HeldN B h H' n := by
  obtain ⟨ps, eh, l, f⟩ := k.all
  refine ⟨ps, b _ _ ne eh, l, fun p hp => ?_⟩
  obtain ⟨x, y, ns, hx, hy, hp, k1, k2, k3, e0, e1, e2⟩ := (f p hp).both
  have no : ∀ {z : Addr}, NoneIn B z → z ≠ a := fun k z => by have k := k.out; rw [z, e] at k; cases k
  exact ⟨x, y, ns, hx, hy, hp, k1, k2, k3, b _ _ (no k3) e0, b _ _ (no k1) e1, b _ _ (no k2) e2⟩
theorem HeldN.snoc {B : Hp} {h p : Addr} {H H' : Hp} {m n : Nat} {ps : List Addr} (l : ps.length ≤ n) (f : ∀ p ∈ ps, PairN B h H p) (b : But h H H') (e' : H' h = some (.lst (ps.map V.ref ++ [V.ref p]))) (g : PairN B h H' p) (hm : n + 1 ≤ m) : HeldN B h H' m :=
  ⟨ps ++ [p], by rw [e', List.map_append]; rfl, by rw [List.length_append]; exact Nat.le_trans (Nat.succ_le_succ l) hm, fun q hq => by
    rcases List.mem_append.mp hq with k | k
    · exact (f q k).step b
    · rw [List.mem_singleton.mp k]; exact g⟩
/-- what there is in B is there in H -/
structure Within (B H : Hp) : Prop where
  free : ∀ x, H x = none → B x = none
theorem Within.none {B H : Hp} {x : Addr} (w : Within B H) (e : H x = none) : NoneIn B x := ⟨w.free x e⟩
theorem Within.refl {B : Hp} : Within B B := ⟨fun _ e => e⟩
theorem Within.upd {B H : Hp} {a : Addr} {o : HO} (w : Within B H) : Within B (upd H a o) := ⟨fun _ e => w.free _ (upd_none e)⟩
theorem Within.same {B H H' : Hp} (w : Within B H) (s : Same H H') : Within B H' := ⟨fun _ e => w.free _ (s.free e)⟩
theorem Within.but {a : Addr} {o : HO} {B H H' : Hp} (w : Within B H) (b : But a H H') (e : H' a = some o) : Within B H' := ⟨fun x n => by
  refine w.free x ?_
  cases k : H x with
  | none => rfl
  | some u =>
    have ne : x ≠ a := fun z => by rw [z, e] at n; cases n
    rw [b _ _ ne k] at n; cases n⟩
theorem HeldN.within {B : Hp} {h : Addr} {H H' : Hp} {n : Nat} (k : HeldN B h H' n) (w : Within B H) (b : But h H H') : Within B H' := by
  obtain ⟨ps, eh, _, _⟩ := k.all
  exact w.but b eh
end Ur

namespace Ur
open PySem L2 PySem.Spec PyProof.Rows
/-! ### an exception in hand -/
/-- isinstance of the exception that the suite holds: a class, or a tuple of classes -/
def rIsX (K : PySem.W.Frag) (cls : Value) (d : Option Addr) (a : Addr) : List V → Hp → VK → Prop := fun xs H Q =>
  ∃ (D : Addr) (c : V) (b : Bool), xs = [.ref a, c] ∧ cls = .ref D ∧ d = none ∧ ExcC K D ∧
    ((∃ u, ClsV c u ∧ PySem.W.kitOne K (.ref D) u = some b) ∨ ∃ (tp : Addr) (cs : List V) (us : List Value), c = .ref tp ∧ H tp = some (.tup cs) ∧ Paired ClsV cs us ∧ PySem.W.kitAny K (.ref D) us = some b) ∧ Q (.bl b) H
theorem call_isX {X : Cx} {K : PySem.W.Frag} (hK : X.K = K) {a : Addr} {cls : Value} {d : Option Addr} {oe : Obj} (hz : Zc cls d oe) (hf : ∃ vs, oe.data = .fields vs) (hp : (a, oe) ∈ X.pn) : CallR X (.builtin "isinstance") (rIsX K cls d a) := by
  subst hK
  intro pins s σ H xs us Q I r h
  obtain ⟨D, c, b, rfl, rfl, rfl, C, hc, q⟩ := h
  obtain ⟨u1, u2, rfl, r1, r2⟩ := vals2 r
  cases (show u1 = Value.ref a from r1)
  obtain ⟨hget, _⟩ := I.pin (a, oe) (List.mem_append.mpr (.inl hp))
  obtain ⟨vs, hv⟩ := hf
  have J : PySem.W.InstAt s.heap a oe D none := by
    obtain ⟨oc, od, oda, osl⟩ := oe
    obtain ⟨h1, h2⟩ := hz
    dsimp only at h1 h2 hv
    subst h1 h2 hv
    exact ⟨hget, rfl, rfl, trivial⟩
  have Z := PySem.W.handS_kitx_exc (x := a) (ox := oe) C.hg C.hk C.hs C.hd C.ha C.hn C.ht C.hm
  rcases hc with ⟨u, k, e⟩ | ⟨tp, cs, ws, rfl, hT, k, e⟩
  · have e2 := k.eq r2
    subst e2
    exact PySem.W.kia_one Z I.kIn J e (fun z => nomatch z) fun tk => ⟨.bl b, H, I.kept (t' := tk) fun _ _ z => z, rfl, q⟩
  · cases (show u2 = Value.ref tp from r2)
    obtain ⟨_, its, rv, o, h1, h2, n, h3⟩ := (show ObjOk X.prog X.w H s.heap tp (.tup cs) from I.hok tp _ hT)
    have e3 := ClsV.all k rv
    subst e3
    obtain ⟨oc, od, dt, sl⟩ := o
    simp only at h2 h3
    subst h2 h3
    exact PySem.W.kia_tup Z I.kIn J h1 e (fun z => nomatch z) fun tk => ⟨.bl b, H, I.kept (t' := tk) fun _ _ z => z, rfl, q⟩
/-- a method of a built-in object, the fragment told -/
theorem pe_bmK {X : Cx} {K : PySem.W.Frag} {o e : Expr} {es : List Expr} {to : TE} {t : TA} {name : Str} {apos cpos : Pos} {T id : String} {r : V → List V → Hp → VK → Prop} (hK : X.K = K) (pa : PlainAttrs T) (slot : Slot T name id) (hty : typeOf (.builtin id) = pure (.type "method_descriptor")) (hm : MtR X id r) (ho : PE X o to) (ha : PA X (e :: es) t)
    (h1 : attributeBase o name X.env (eval o X.env) = eval o X.env := by rfl)
    (h2 : ((backTo cpos (starEach (e :: es) X.env)).all (fun x => !x.1) && (backToKw cpos (keywordEach [] X.env)).all (fun x => x.1.isSome) && decide ((e :: es).length + ([] : List Keyword).length + (if ([] : List Keyword).isEmpty then 0 else 1) < 30)) = true := by rfl)
    (h3 : (apos.endLine == cpos.line) = true := by rfl) (h4 : starEach (e :: es) X.env = (false, eval e X.env) :: starEach es X.env := by rfl) (h5 : (backTo cpos (starEach es X.env)).any (·.1) = false := by rfl) :
    PE X (.Call (.Attribute o name apos) (e :: es) [] cpos) (tBM K T r to t) := by
  subst hK
  exact pe_bm pa slot hty hm ho ha h1 h2 h3 h4 h5
theorem isX1 {K : PySem.W.Frag} {D a C : Addr} {b : Bool} {H : Hp} {Q : VK} (E : ExcC K D) (h : PySem.W.kitOne K (.ref D) (.ref C) = some b) (q : Q (.bl b) H) : rIsX K (.ref D) none a [.ref a, .ref C] H Q :=
  ⟨D, _, b, rfl, rfl, rfl, E, .inl ⟨_, .own C, h⟩, q⟩
theorem isXT {K : PySem.W.Frag} {D a : Addr} {n : String} {b : Bool} {H : Hp} {Q : VK} (E : ExcC K D) (h : PySem.W.kitOne K (.ref D) (.type n) = some b) (q : Q (.bl b) H) : rIsX K (.ref D) none a [.ref a, .ty n] H Q :=
  ⟨D, _, b, rfl, rfl, rfl, E, .inl ⟨_, .ty n, h⟩, q⟩
/-- of none of these classes -/
def NoneOf (K : PySem.W.Frag) (D : Addr) (cs : List Addr) : Prop := ∀ c ∈ cs, PySem.W.kitOne K (.ref D) (.ref c) = some false
theorem NoneOf.any {K : PySem.W.Frag} {D : Addr} : ∀ {cs : List Addr}, NoneOf K D cs → PySem.W.kitAny K (.ref D) (cs.map Value.ref) = some false
  | [], _ => rfl
  | c :: cs, h => kitAny_cons (h c List.mem_cons_self) (fun _ => NoneOf.any fun x hx => h x (List.mem_cons_of_mem _ hx)) (fun z => nomatch z)
theorem NoneOf.pair : ∀ (cs : List Addr), Paired ClsV (cs.map V.ref) (cs.map Value.ref)
  | [] => .nil
  | c :: cs => .cons (.own c) (NoneOf.pair cs)
theorem isX2 {K : PySem.W.Frag} {D a p : Addr} {vs : List V} {cs : List Addr} {H : Hp} {Q : VK} (E : ExcC K D) (h : NoneOf K D cs) (e : H p = some (.tup vs)) (hv : vs = cs.map V.ref) (q : Q (.bl false) H) : rIsX K (.ref D) none a [.ref a, .ref p] H Q :=
  ⟨D, _, false, rfl, rfl, rfl, E, .inr ⟨p, _, _, rfl, by rw [e, hv], NoneOf.pair cs, h.any⟩, q⟩
theorem NoneOf.nil {K : PySem.W.Frag} {D : Addr} : NoneOf K D [] := fun _ h => nomatch h
theorem NoneOf.cons {K : PySem.W.Frag} {D c : Addr} {cs : List Addr} (h : PySem.W.kitOne K (.ref D) (.ref c) = some false) (t : NoneOf K D cs) : NoneOf K D (c :: cs) := fun x hx => by
  rcases List.mem_cons.mp hx with rfl | k
  · exact h
  · exact t x k
theorem rEq_kinds {K : PySem.W.Frag} {H : Hp} {a b : Addr} {Q : VK} (h1 : H a = some (.lst [.bl true, .bl true, .bl false])) (h2 : H b = some (.lst [.bl true, .bl true, .bl false])) (q : Q (.bl true) H) : rEqD K (.ref a) (.ref b) H Q :=
  ⟨_, _, .lst (SqL.of h1) (.cons (.bl _) (.cons (.bl _) (.cons (.bl _) .nil))), .lst (SqL.of h2) (.cons (.bl _) (.cons (.bl _) (.cons (.bl _) .nil))), by decide, by decide, q⟩
end Ur

namespace Ur
open PySem L2
/-! ### range(0, b, c) -/
theorem rgc_up {b c : Int} (hb : 0 ≤ b) (hb' : b ≤ 1000000) (hc : 0 < c) (hc' : c ≤ 1000000) : ∃ n : Nat, (n : Int) ≤ b ∧ (∀ i : Nat, i < n → 0 ≤ 0 + (i : Int) * c ∧ 0 + (i : Int) * c < b) ∧ RgC 0 b c n := by
  by_cases h : 0 < b
  · have h1 : 0 ≤ (b - 0 - 1) / c := Int.ediv_nonneg (by omega) (by omega)
    have h2 : (b - 0 - 1) / c ≤ b - 0 - 1 := Int.ediv_le_self c (by omega)
    have e : Builtin.Range.rangeSize 0 b c = (b - 0 - 1) / c + 1 := by
      unfold Builtin.Range.rangeSize
      rw [if_pos hc, if_pos h]
    refine ⟨((b - 0 - 1) / c + 1).toNat, by omega, fun i hi => ⟨by have := Int.mul_nonneg (Int.natCast_nonneg i) (Int.le_of_lt hc); omega, ?_⟩, by omega, by omega, ?_, ?_⟩
    · have k1 : (i : Int) ≤ (b - 0 - 1) / c := by omega
      have k2 : (i : Int) * c ≤ (b - 0 - 1) / c * c := Int.mul_le_mul_of_nonneg_right k1 (by omega)
      have k3 := Int.ediv_mul_le (b - 0 - 1) (show c ≠ 0 by omega)
      omega
    · unfold Builtin.Range.small
      rw [e, if_pos hc]
      simp only [Builtin.Range.rangeFitsLong, Bool.and_eq_true, Bool.or_eq_true, decide_eq_true_eq, beq_iff_eq]
      omega
    · rw [e]; omega
  · have hb0 : b = 0 := by omega
    subst hb0
    refine ⟨0, by omega, fun i hi => absurd hi (Nat.not_lt_zero _), by omega, by omega, ?_, ?_⟩
    · unfold Builtin.Range.small Builtin.Range.rangeSize
      rw [if_pos hc, if_pos hc]
      simp only [Builtin.Range.rangeFitsLong, Bool.and_eq_true, Bool.or_eq_true, decide_eq_true_eq, beq_iff_eq]
      omega
    · unfold Builtin.Range.rangeSize
      rw [if_pos hc]
      rfl
end Ur

namespace Ur
open PySem L2
/-! ### lists of lists of ints -/
/-- n lists at ls, the k-th of them F k -/
structure RowsF (H : Hp) (ls : List Addr) (n : Nat) (F : Nat → List Int) : Prop where
  len : ls.length = n
  row : ∀ k p, ls[k]? = some p → H p = some (.lst ((F k).map V.int))
theorem RowsF.same {H H' : Hp} {ls : List Addr} {n : Nat} {F : Nat → List Int} (r : RowsF H ls n F) (s : Same H H') : RowsF H' ls n F := ⟨r.len, fun k p e => s _ _ (r.row k p e)⟩
theorem RowsF.but {a : Addr} {H H' : Hp} {ls : List Addr} {n : Nat} {F : Nat → List Int} (r : RowsF H ls n F) (b : But a H H') (no : ∀ p ∈ ls, p ≠ a) : RowsF H' ls n F := ⟨r.len, fun k p e => b _ _ (no p (List.mem_of_getElem? e)) (r.row k p e)⟩
theorem RowsF.congr {H : Hp} {ls : List Addr} {n : Nat} {F G : Nat → List Int} (r : RowsF H ls n F) (e : ∀ k, k < n → F k = G k) : RowsF H ls n G := ⟨r.len, fun k p h => by
  have hk := (List.getElem?_eq_some_iff.mp h).1
  rw [← e k (by have := r.len; omega)]
  exact r.row k p h⟩
theorem RowsF.is {H : Hp} {ls : List Addr} {n : Nat} {F : Nat → List Int} (r : RowsF H ls n F) {p : Addr} (hp : p ∈ ls) : ∃ ns : List Int, H p = some (.lst (ns.map V.int)) := by
  obtain ⟨k, hk⟩ := List.getElem?_of_mem hp
  exact ⟨F k, r.row k p hk⟩
theorem RowsF.snoc {H H4 : Hp} {Dl q : Addr} {qs : List Addr} {i : Nat} {F : Nat → List Int} {o : HO} (r : RowsF H qs i F) (s : Same H H4) (no : ∀ p ∈ qs, p ≠ Dl) (e : H4 q = some (.lst ((F i).map V.int))) (hq : q ≠ Dl) : RowsF (upd H4 Dl o) (qs ++ [q]) (i + 1) F := by
  refine ⟨by rw [List.length_append, r.len]; rfl, fun k p h => ?_⟩
  by_cases hk : k < qs.length
  · rw [List.getElem?_append_left hk] at h
    rw [upd_ne (no p (List.mem_of_getElem? h))]
    exact s _ _ (r.row k p h)
  · have h2 := (List.getElem?_eq_some_iff.mp h).1
    rw [List.length_append] at h2
    have h3 : [q].length = 1 := rfl
    have hk2 : k = qs.length := by omega
    subst hk2
    rw [List.getElem?_append_right (Nat.le_refl _), Nat.sub_self] at h
    cases h
    rw [upd_ne hq, r.len]
    exact e
theorem dpAll_of {K : PySem.W.Frag} {H : Hp} : ∀ (vs : List V) (ds : List PyData), vs.length = ds.length → (∀ (k : Nat) (v : V) (d : PyData), vs[k]? = some v → ds[k]? = some d → Dp K H v d) → DpAll K H vs ds
  | [], [], _, _ => .nil
  | [], _ :: _, h, _ => by cases h
  | _ :: _, [], h, _ => by cases h
  | v :: vs, d :: ds, h, f => .cons (f 0 v d rfl rfl) (dpAll_of vs ds (Nat.succ.inj h) fun k v d h1 h2 => f (k + 1) v d h1 h2)
theorem canLayAll_of : ∀ ds : List PyData, (∀ d ∈ ds, PyData.canLay0 d = true) → PyData.canLayAll0 ds = true
  | [], _ => rfl
  | d :: ds, f => by
    show (PyData.canLay0 d && PyData.canLayAll0 ds) = true
    rw [canLayAll_of ds fun x h => f x (List.mem_cons_of_mem _ h), f d List.mem_cons_self]
    rfl
theorem depthAll_of {m : Nat} : ∀ ds : List PyData, (∀ d ∈ ds, PyData.depth d ≤ m) → PyData.depthAll ds ≤ m
  | [], _ => by
    rw [PyData.depthAll]
    exact Nat.zero_le _
  | d :: ds, f => by
    rw [PyData.depthAll]
    exact Nat.max_le.mpr ⟨f d List.mem_cons_self, depthAll_of ds fun x h => f x (List.mem_cons_of_mem _ h)⟩
theorem eqvAll_refl : ∀ ds : List PyData, (∀ d ∈ ds, PyData.eqv d d = true) → PyData.eqvAll ds ds = true
  | [], _ => rfl
  | d :: ds, f => by
    show (PyData.eqv d d && PyData.eqvAll ds ds) = true
    rw [eqvAll_refl ds fun x h => f x (List.mem_cons_of_mem _ h), f d List.mem_cons_self]
    rfl
/-- the data of such a list -/
def rowsD (n : Nat) (F : Nat → List Int) : List PyData := (List.range n).map fun k => PyData.list ((F k).map PyData.int)
theorem dp_rows {K : PySem.W.Frag} {H : Hp} {a : Addr} {ls : List Addr} {n : Nat} {F : Nat → List Int} (h : SqL K H a (ls.map V.ref)) (r : RowsF H ls n F) : Dp K H (.ref a) (.list (rowsD n F)) := by
  refine .lst h (dpAll_of _ _ (by rw [rowsD, List.length_map, List.length_map, List.length_range, r.len]) fun k v d h1 h2 => ?_)
  rw [List.getElem?_map] at h1
  obtain ⟨p, hp, rfl⟩ := Option.map_eq_some_iff.mp h1
  have hk := (List.getElem?_eq_some_iff.mp hp).1
  rw [rowsD, List.getElem?_map, List.getElem?_range (by have := r.len; omega)] at h2
  cases h2
  exact dp_ints (SqL.of (r.row k p hp))
theorem shaped_rows (n : Nat) (F : Nat → List Int) : SeqAt.shaped (.list (rowsD n F)) = true := by
  refine shaped_of (canLayAll_of _ fun d h => ?_) ?_
  · obtain ⟨k, _, rfl⟩ := List.mem_map.mp h
    exact canLayAll_ints _
  · have h := depthAll_of (m := 2) (rowsD n F) fun d h => by
      obtain ⟨k, _, rfl⟩ := List.mem_map.mp h
      exact depth_ints _
    rw [PyData.depth]
    omega
theorem eqv_rows (n : Nat) (F : Nat → List Int) : PyData.eqv (.list (rowsD n F)) (.list (rowsD n F)) = true := by
  show PyData.eqvAll _ _ = true
  refine eqvAll_refl _ fun d h => ?_
  obtain ⟨k, _, rfl⟩ := List.mem_map.mp h
  rw [eqv_ints]
  exact decide_eq_true rfl
theorem rEq_rows {K : PySem.W.Frag} {H : Hp} {a b : Addr} {ls ms : List Addr} {n : Nat} {F : Nat → List Int} {Q : VK} (h1 : SqL K H a (ls.map V.ref)) (h2 : SqL K H b (ms.map V.ref)) (r1 : RowsF H ls n F) (r2 : RowsF H ms n F) (q : Q (.bl true) H) : rEqD K (.ref a) (.ref b) H Q :=
  ⟨_, _, dp_rows h1 r1, dp_rows h2 r2, shaped_rows n F, shaped_rows n F, by rw [eqv_rows]; exact q⟩
theorem rNe_rows {K : PySem.W.Frag} {H : Hp} {a b : Addr} {ls ms : List Addr} {n : Nat} {F : Nat → List Int} {Q : VK} (h1 : SqL K H a (ls.map V.ref)) (h2 : SqL K H b (ms.map V.ref)) (r1 : RowsF H ls n F) (r2 : RowsF H ms n F) (q : Q (.bl false) H) : rNeD K (.ref a) (.ref b) H Q :=
  ⟨_, _, dp_rows h1 r1, dp_rows h2 r2, shaped_rows n F, shaped_rows n F, by rw [eqv_rows]; exact q⟩
section
variable {K : PySem.W.Frag} {a : Addr} {σ : L2.St} {H1 : Hp} {Dl : Addr} {te : TE} {vs : List Nat} {j : Nat} {lo : Int} {n : Nat} {Qd : Hp → Prop}
/-- [e for k in range(..)], each e a new list of ints -/
theorem lc_rngL (F : Nat → List Int) (hn : n ≤ 1000000) (hD : H1 Dl = none) (hw : ∀ x, wipe ((wipe σ vs).set j (some x)) vs = wipe σ vs)
    (he : ∀ (k : Nat) H', k < n → Same H1 H' → ∀ Q' : VK, (∀ q H4, Same H' H4 → H4 q = some (.lst ((F k).map V.int)) → H' q = none → Q' (.ref q) H4) → te ((wipe σ vs).set j (some (.int (lo + (k : Nat))))) H' Q')
    (hd : ∀ H' qs, Same H1 H' → H' Dl = some (.lst (qs.map V.ref)) → RowsF H' qs n F → (∀ q ∈ qs, H1 q = none ∧ q ≠ Dl) → qs.Nodup → Qd H') :
    ∃ W : Nat → Nat → Hp → Prop, (∃ m, W 0 m (upd H1 Dl (.lst []))) ∧ ∀ i m H, W i m H →
      ((Itr lo n).stop i H ∧ Qd H) ∨ ((Itr lo n).go i H ∧ ∃ Nx : Hp → Prop, (∀ H', Nx H' → ∃ m', m' < m ∧ W (i + 1) m' H') ∧ ∀ x H', (Itr lo n).yld i H x H' → gName j x (wipe σ vs) H' fun σ2 H2 => wipe σ2 vs = wipe σ vs ∧ tYes σ2 H2 fun b H3 =>
        if b = true then te σ2 H3 fun y H4 => ∃ acc, H4 Dl = some (.lst acc) ∧ acc.length < sizeLine ∧ Nx (upd H4 Dl (.lst (acc ++ [y]))) else Nx H3) := by
  refine lc_range (lo := lo) (n := n) (fun i H' => ∃ qs : List Addr, Same H1 H' ∧ H' Dl = some (.lst (qs.map V.ref)) ∧ RowsF H' qs i F ∧ (∀ q ∈ qs, H1 q = none ∧ q ≠ Dl) ∧ qs.Nodup) ⟨[], same_new hD, upd_same, ⟨rfl, fun k p h => nomatch h⟩, (fun q h => nomatch h), List.nodup_nil⟩ (fun i H' hi p => ?_) (fun H' p => ?_)
  · obtain ⟨qs, s1, eD, r, f, nd⟩ := p
    refine ⟨hw _, ?_⟩
    refine tyes_ok ?_
    refine he i H' hi s1 _ fun q H4 s e nq => ?_
    have qD : q ≠ Dl := fun z => by rw [z, eD] at nq; cases nq
    refine ⟨_, s _ _ eD, szl (by rw [List.length_map, r.len]; omega), qs ++ [q], same_upd' hD (s1.trans s), ?_, r.snoc s (fun p hp => (f p hp).2) e qD, fun p hp => ?_, ?_⟩
    · rw [upd_same, List.map_append]; rfl
    · rcases List.mem_append.mp hp with h | h
      · exact f p h
      · rw [List.mem_singleton.mp h]; exact ⟨s1.free nq, qD⟩
    · rw [List.nodup_append]
      refine ⟨nd, List.nodup_cons.mpr ⟨List.not_mem_nil, List.nodup_nil⟩, fun x hx y hy z => ?_⟩
      rw [List.mem_singleton.mp hy] at z
      obtain ⟨ms, em⟩ := r.is hx
      rw [z, nq] at em
      cases em
  · obtain ⟨qs, s1, eD, r, f, nd⟩ := p
    exact hd H' qs s1 eD r f nd
/-- [e for p in a list], each e a new list of ints -/
theorem lc_refsL {ls : List Addr} (F : Nat → List Int) (hn : ls.length ≤ 1000000) (ha : SqL K H1 a (ls.map V.ref)) (hD : H1 Dl = none) (hw : ∀ x, wipe ((wipe σ vs).set j (some x)) vs = wipe σ vs)
    (he : ∀ (k : Nat) p H', ls[k]? = some p → Same H1 H' → ∀ Q' : VK, (∀ q H4, Same H' H4 → H4 q = some (.lst ((F k).map V.int)) → H' q = none → Q' (.ref q) H4) → te ((wipe σ vs).set j (some (.ref p))) H' Q')
    (hd : ∀ H' qs, Same H1 H' → H' Dl = some (.lst (qs.map V.ref)) → RowsF H' qs ls.length F → (∀ q ∈ qs, H1 q = none ∧ q ≠ Dl) → qs.Nodup → Qd H') :
    ∃ W : Nat → Nat → Hp → Prop, (∃ m, W 0 m (upd H1 Dl (.lst []))) ∧ ∀ i m H, W i m H →
      ((Itl K a).stop i H ∧ Qd H) ∨ ((Itl K a).go i H ∧ ∃ Nx : Hp → Prop, (∀ H', Nx H' → ∃ m', m' < m ∧ W (i + 1) m' H') ∧ ∀ x H', (Itl K a).yld i H x H' → gName j x (wipe σ vs) H' fun σ2 H2 => wipe σ2 vs = wipe σ vs ∧ tYes σ2 H2 fun b H3 =>
        if b = true then te σ2 H3 fun y H4 => ∃ acc, H4 Dl = some (.lst acc) ∧ acc.length < sizeLine ∧ Nx (upd H4 Dl (.lst (acc ++ [y]))) else Nx H3) := by
  refine lc_list (K := K) (a := a) (xs := ls.map V.ref) (fun i H' => ∃ qs : List Addr, Same H1 H' ∧ H' Dl = some (.lst (qs.map V.ref)) ∧ RowsF H' qs i F ∧ (∀ q ∈ qs, H1 q = none ∧ q ≠ Dl) ∧ qs.Nodup) ⟨[], same_new hD, upd_same, ⟨rfl, fun k p h => nomatch h⟩, (fun q h => nomatch h), List.nodup_nil⟩ (fun i H' _ p => ?_) (fun i x H' hx p => ?_) (fun H' p => ?_)
  · obtain ⟨qs, s1, _⟩ := p
    exact s1.seq ha
  · obtain ⟨qs, s1, eD, r, f, nd⟩ := p
    rw [List.getElem?_map] at hx
    obtain ⟨p0, hp0, rfl⟩ := Option.map_eq_some_iff.mp hx
    have hi := (List.getElem?_eq_some_iff.mp hp0).1
    refine ⟨hw _, ?_⟩
    refine tyes_ok ?_
    refine he i p0 H' hp0 s1 _ fun q H4 s e nq => ?_
    have qD : q ≠ Dl := fun z => by rw [z, eD] at nq; cases nq
    refine ⟨_, s _ _ eD, szl (by rw [List.length_map, r.len]; omega), qs ++ [q], same_upd' hD (s1.trans s), ?_, r.snoc s (fun p hp => (f p hp).2) e qD, fun p hp => ?_, ?_⟩
    · rw [upd_same, List.map_append]; rfl
    · rcases List.mem_append.mp hp with h | h
      · exact f p h
      · rw [List.mem_singleton.mp h]; exact ⟨s1.free nq, qD⟩
    · rw [List.nodup_append]
      refine ⟨nd, List.nodup_cons.mpr ⟨List.not_mem_nil, List.nodup_nil⟩, fun x hx y hy z => ?_⟩
      rw [List.mem_singleton.mp hy] at z
      obtain ⟨ms, em⟩ := r.is hx
      rw [z, nq] at em
      cases em
  · obtain ⟨qs, s1, eD, r, f, nd⟩ := p
    rw [List.length_map] at r
    exact hd H' qs s1 eD r f nd
end
end Ur
namespace Ur
open PySem L2
theorem lineW_drop {ns : List Int} {k : Nat} (h : k ≤ ns.length) : lineW (ns.drop k) 0 = lineW ns k := by
  unfold lineW
  rw [List.length_drop, Nat.sub_zero]
  refine List.map_congr_left fun j _ => ?_
  show ((ulen (((ns.drop k).drop 0).take (0 + j - 0)) : Nat) : Int) = ((ulen ((ns.drop k).take (k + j - k)) : Nat) : Int)
  rw [List.drop_zero, show 0 + j - 0 = j by omega, show k + j - k = j by omega]
end Ur
namespace Ur
open PySem L2
/-- all of ls are other places than a -/
structure Off (ls : List Addr) (a : Addr) : Prop where
  out : ∀ p ∈ ls, p ≠ a
theorem RowsF.offNew {H : Hp} {x : Addr} {ls : List Addr} {n : Nat} {F : Nat → List Int} (r : RowsF H ls n F) (e : H x = none) : Off ls x := ⟨fun p hp z => by
  obtain ⟨ms, em⟩ := r.is hp
  rw [z, e] at em
  cases em⟩
theorem offOld {H : Hp} {x : Addr} {o : HO} {ls : List Addr} (f : ∀ p ∈ ls, H p = none) (e : H x = some o) : Off ls x := ⟨fun p hp z => by
  have h := f p hp
  rw [z, e] at h
  cases h⟩
theorem RowsF.upd {H : Hp} {x : Addr} {o : HO} {ls : List Addr} {n : Nat} {F : Nat → List Int} (r : RowsF H ls n F) (f : Off ls x) : RowsF (upd H x o) ls n F := ⟨r.len, fun k p e => by
  rw [upd_ne (f.out p (List.mem_of_getElem? e))]
  exact r.row k p e⟩
theorem nodup_idx {α : Type} {ls : List α} (nd : ls.Nodup) {i k : Nat} {p : α} (h1 : ls[i]? = some p) (h2 : ls[k]? = some p) : i = k := by
  obtain ⟨a1, b1⟩ := List.getElem?_eq_some_iff.mp h1
  obtain ⟨a2, b2⟩ := List.getElem?_eq_some_iff.mp h2
  have w := List.pairwise_iff_getElem.mp nd
  rcases Nat.lt_trichotomy i k with c | c | c
  · exact absurd (b1.trans b2.symm) (w i k a1 a2 c)
  · exact c
  · exact absurd (b2.trans b1.symm) (w k i a2 a1 c)
/-- one of the lists has changed -/
theorem RowsF.set {H H' : Hp} {qs : List Addr} {n i : Nat} {l : Addr} {F : Nat → List Int} {ns : List Int} (r : RowsF H qs n F) (nd : qs.Nodup) (hl : qs[i]? = some l) (e : H' l = some (.lst (ns.map V.int))) (b : But l H H') : RowsF H' qs n (fun k => if k = i then ns else F k) := ⟨r.len, fun k p h => by
  show _ = some (HO.lst ((if k = i then ns else F k).map V.int))
  by_cases hk : k = i
  · subst hk
    rw [hl] at h
    cases h
    rw [if_pos rfl]
    exact e
  · rw [if_neg hk]
    refine b _ _ (fun z => hk ?_) (r.row k p h)
    exact nodup_idx nd h (by rw [hl, z])⟩
/-! ### told tables that are held, each a tuple of two of the same -/
structure PairR (h : Addr) (H : Hp) (p : Addr) : Prop where
  both : ∃ (a b : Addr) (ls ms : List Addr) (n : Nat) (F : Nat → List Int), a ≠ h ∧ b ≠ h ∧ p ≠ h ∧ Off ls h ∧ Off ms h ∧ H p = some (.tup [.ref a, .ref b]) ∧ H a = some (.lst (ls.map V.ref)) ∧ H b = some (.lst (ms.map V.ref)) ∧ RowsF H ls n F ∧ RowsF H ms n F
structure HeldR (h : Addr) (H : Hp) (n : Nat) : Prop where
  all : ∃ ps : List Addr, H h = some (.lst (ps.map V.ref)) ∧ ps.length ≤ n ∧ ∀ p ∈ ps, PairR h H p
theorem PairR.step {h p : Addr} {H H' : Hp} (k : PairR h H p) (b : But h H H') : PairR h H' p := by
  obtain ⟨x, y, ls, ms, n, F, hx, hy, hp, o1, o2, e, e1, e2, r1, r2⟩ := k.both
  exact ⟨x, y, ls, ms, n, F, hx, hy, hp, o1, o2, b _ _ hp e, b _ _ hx e1, b _ _ hy e2, r1.but b o1.out, r2.but b o2.out⟩
theorem HeldR.same {h : Addr} {H H' : Hp} {n : Nat} (k : HeldR h H n) (s : Same H H') : HeldR h H' n := by
  obtain ⟨ps, e, l, f⟩ := k.all
  exact ⟨ps, s _ _ e, l, fun p hp => (f p hp).step (Same.but s)⟩
theorem HeldR.snoc {h p : Addr} {H H' : Hp} {m n : Nat} {ps : List Addr} (l : ps.length ≤ n) (f : ∀ p ∈ ps, PairR h H p) (b : But h H H') (e' : H' h = some (.lst (ps.map V.ref ++ [V.ref p]))) (g : PairR h H' p) (hm : n + 1 ≤ m) : HeldR h H' m :=
  ⟨ps ++ [p], by rw [e', List.map_append]; rfl, by rw [List.length_append]; exact Nat.le_trans (Nat.succ_le_succ l) hm, fun q hq => by
    rcases List.mem_append.mp hq with k | k
    · exact (f q k).step b
    · rw [List.mem_singleton.mp k]; exact g⟩
end Ur
namespace Ur
open PySem L2
theorem len_refs {K : PySem.W.Frag} {H : Hp} {p : Addr} {ls : List Addr} {Q : VK} (h : SqL K H p (ls.map V.ref)) (q : Q (.int ls.length) H) : rLenI K [.ref p] H Q :=
  ⟨p, _, rfl, Or.inl h, by rw [List.length_map]; exact q⟩
end Ur
namespace Ur
open PySem L2
/-- while, the test's answer told; Pv by a measure; the search does not open what is due of a turn -/
theorem while_iv {tb : TS} {D : Ends} {σ : L2.St} {H : Hp} {c : TT} (Pv : Nat → L2.St → Hp → Prop) (m0 : Nat) (h0 : Pv m0 σ H)
    (hs : ∀ m σ H, Pv m σ H → ∃ b, (∀ Q : Bool → Hp → Prop, Q b H → c σ H Q) ∧
      (b = true → tb { D with nx := fun σ' H' => Iv (∃ m', m' < m ∧ Pv m' σ' H'), ct := fun σ' H' => Iv (∃ m', m' < m ∧ Pv m' σ' H'), bk := D.nx } σ H) ∧ (b = false → D.nx σ H)) : tWhile c tb D σ H := by
  refine ⟨Pv, ⟨m0, h0⟩, fun m σ H p => ?_⟩
  obtain ⟨b, hb, h1, h2⟩ := hs m σ H p
  refine hb _ ?_
  cases b with
  | true => exact (if_pos rfl).mpr ⟨_, fun _ _ n => n.out, h1 rfl⟩
  | false => exact (if_neg Bool.false_ne_true).mpr (h2 rfl)
theorem getD_mem {ns : List Int} {k : Nat} (h : k < ns.length) : ns.getD k 0 ∈ ns := List.mem_of_getElem? (get_of h)
theorem getD_all {ns : List Int} {k : Nat} {P : Int → Prop} (h : k < ns.length) (f : ∀ x ∈ ns, P x) : P (ns.getD k 0) := f _ (getD_mem h)
end Ur
namespace Ur
open PySem L2
/-- while, the test may lay new things; the body is reached where the measure is above 0 only -/
theorem while_t {tb : TS} {D : Ends} {σ : L2.St} {H : Hp} {c : TT} (Pv : Nat → L2.St → Hp → Prop) (m0 : Nat) (h0 : Pv m0 σ H)
    (ht : ∀ m σ H, Pv m σ H → ∀ Q : Bool → Hp → Prop, (∀ b H', Same H H' → (b = true → 0 < m) → Q b H') → c σ H Q)
    (hs : ∀ m σ H H', Pv m σ H → 0 < m → Same H H' → tb { D with nx := fun σ' H' => Iv (∃ m', m' < m ∧ Pv m' σ' H'), ct := fun σ' H' => Iv (∃ m', m' < m ∧ Pv m' σ' H'), bk := D.nx } σ H')
    (hd : ∀ m σ H H', Pv m σ H → Same H H' → D.nx σ H') : tWhile c tb D σ H := by
  refine ⟨Pv, ⟨m0, h0⟩, fun m σ H p => ht m σ H p _ fun b H' s hb => ?_⟩
  cases b with
  | true => exact (if_pos rfl).mpr ⟨_, fun _ _ n => n.out, hs m σ H H' p (hb rfl) s⟩
  | false => exact (if_neg Bool.false_ne_true).mpr (hd m σ H H' p s)
end Ur
namespace Ur
open PySem L2
/-! ### a window's numbers, held -/
def hldF (d : Addr) : List (Str × V) := putF "times" (.ref d) []
theorem hld_times {d : Addr} : (hldF d).lookup ("times" : Str) = some (.ref d) := by
  unfold hldF
  rw [lookup_putF, if_pos rfl]
theorem hld_no {d : Addr} {m : Str} (h : ¬ m = "times") : (hldF d).lookup m = none := by
  unfold hldF
  rw [lookup_putF, if_neg h]
  rfl
end Ur
namespace Ur
open PySem L2
theorem pop1_int {H : Hp} {a : Addr} {kvs : List (Key × V)} {n : Int} {v : V} {Q : VK} (h : H a = some (.dK kvs)) (hv : valV kvs (Sum.inl n) = some v) (q : Q v (upd H a (.dK (dropK kvs (Sum.inl n))))) :
    ∃ (kvs : List (Key × V)) (k : Key) (v : V), H a = some (.dK kvs) ∧ V.int n = kV k ∧ valV kvs k = some v ∧ Q v (upd H a (.dK (dropK kvs k))) := ⟨kvs, Sum.inl n, v, h, rfl, hv, q⟩
end Ur
namespace Ur
open PySem L2
theorem pg_tupK {X : Cx} {K : PySem.W.Frag} (hk : X.K = K) {es : List Expr} {k : Nat} {pos : Pos} {t : TGs} {n : Nat} (hc : X.calm = true) (h : PGs X es t)
    (hn : (assignEach es X.env).length = n := by rfl) (hst : (assignEach es X.env).findIdx? (·.1) = none := by rfl) : PG X (.Tuple es k pos) (gTup K n t) := by
  subst hk
  exact pg_tup hc h hn hst
end Ur
namespace Ur
open PySem L2
/-! ### repr -/
/-- repr of data laid in the heap -/
def rRepr (K : PySem.W.Frag) : List V → Hp → VK → Prop := fun xs H Q => ∃ (p : Addr) (d : PyData), xs = [.ref p] ∧ Dp K H (.ref p) d ∧
  d.showable = true ∧ d.hasDict = false ∧ d.depth ≤ 64 ∧ d.shown.length ≤ sizeLine ∧ Q (.str d.shown) H
/-- data whose repr is told -/
structure GoodD (d : PyData) : Prop where
  show_ : d.showable = true
  dict : d.hasDict = false
  deep : d.depth ≤ 64
  fits : d.shown.length ≤ sizeLine
abbrev SmI (i : Int) : Prop := -1000000 < i ∧ i < 1000000
theorem weight_sm {i : Int} (h : SmI i) : PyData.weight (.int i) ≤ 20 := by
  rw [PyData.weight]
  by_cases c : (i == 0) = true
  · rw [if_pos c]; omega
  · rw [if_neg c]
    have c2 : i ≠ 0 := fun e => c (by rw [e]; rfl)
    have k := (Nat.log2_lt (n := i.natAbs) (k := 20) (by omega)).mpr (by have e : (2 : Nat) ^ 20 = 1048576 := by decide
                                                                         omega)
    omega
theorem weightAll_sm : ∀ {ns : List Int}, (∀ n ∈ ns, SmI n) → PyData.weightAll (ns.map .int) ≤ 21 * ns.length
  | [], _ => by rw [List.map_nil, PyData.weightAll]; exact Nat.zero_le _
  | n :: r, h => by
    have k1 := weight_sm (h n List.mem_cons_self)
    have k2 := weightAll_sm (ns := r) fun m hm => h m (List.mem_cons_of_mem _ hm)
    rw [List.map_cons, PyData.weightAll, List.length_cons]
    omega
theorem showAll_sm : ∀ {ns : List Int}, (∀ n ∈ ns, SmI n) → PyData.showableAll (ns.map .int) = true
  | [], _ => by rw [List.map_nil, PyData.showableAll]
  | n :: r, h => by
    have h1 := h n List.mem_cons_self
    rw [List.map_cons, PyData.showableAll, showAll_sm (ns := r) fun m hm => h m (List.mem_cons_of_mem _ hm), Bool.and_true, PyData.showable]
    refine decide_eq_true ?_
    by_cases c : n.natAbs = 0
    · rw [c]; decide
    · exact Nat.lt_of_lt_of_le ((Nat.log2_lt (n := n.natAbs) (k := 20) c).mpr (by have e : (2 : Nat) ^ 20 = 1048576 := by decide
                                                                                  omega)) (by decide)
theorem shortAll_sm {ns : List Int} (h : ∀ n ∈ ns, SmI n) : PyData.intsShortAll 13 (ns.map .int) = true :=
  PyData.intsShortAll_ints ns fun n hn => by
    have := h n hn
    have e : (10 : Nat) ^ 12 = 1000000000000 := by decide
    omega
theorem good_of {d : PyData} (c : d.canLay0 = true) (dp : d.depth ≤ 64) (w : d.weight ≤ 2 ^ 20) (s : d.showable = true) (i : d.intsShort 13 = true) : GoodD d := by
  refine ⟨s, PyData.hasDict_of_canLay d c, dp, PyData.shown_fits_of_layable0 (B := 13) (by decide) (by decide) ?_ i⟩
  show (d.canLay0 && decide (d.depth ≤ 64) && decide (d.weight ≤ 2 ^ 20)) = true
  rw [c, decide_eq_true dp, decide_eq_true w]
  rfl
/-- a tuple of ints -/
def tupD (ns : List Int) : PyData := .tuple (ns.map .int)
theorem depth_tup (ns : List Int) : (tupD ns).depth ≤ 2 := by
  have h := depthAll_ints ns
  unfold tupD
  rw [PyData.depth]
  omega
theorem good_tup {ns : List Int} (h : ∀ n ∈ ns, SmI n) (hl : ns.length ≤ 1000) : GoodD (tupD ns) := by
  have w := weightAll_sm h
  refine good_of (canLayAll_ints ns) (Nat.le_trans (depth_tup ns) (by decide)) ?_ ?_ ?_
  · unfold tupD
    rw [PyData.weight]
    have e : (2 : Nat) ^ 20 = 1048576 := by decide
    omega
  · unfold tupD
    rw [PyData.showable]
    exact showAll_sm h
  · unfold tupD
    rw [PyData.intsShort]
    exact shortAll_sm h
theorem goodAll {ts : List (List Int)} (h : ∀ ns ∈ ts, ns.length ≤ 3 ∧ ∀ n ∈ ns, SmI n) : PyData.weightAll (ts.map tupD) ≤ 64 * ts.length ∧ PyData.showableAll (ts.map tupD) = true ∧ PyData.intsShortAll 13 (ts.map tupD) = true := by
  induction ts with
  | nil => exact ⟨by rw [List.map_nil, PyData.weightAll]; exact Nat.zero_le _, by rw [List.map_nil, PyData.showableAll], by rw [List.map_nil, PyData.intsShortAll]⟩
  | cons ns ts ih =>
    obtain ⟨h1, h2⟩ := h ns List.mem_cons_self
    obtain ⟨i1, i2, i3⟩ := ih fun m hm => h m (List.mem_cons_of_mem _ hm)
    have w := weightAll_sm h2
    have g := good_tup h2 (by omega)
    refine ⟨?_, ?_, ?_⟩
    · have e : PyData.weight (tupD ns) = PyData.weightAll (ns.map .int) := by unfold tupD; rw [PyData.weight]
      rw [List.map_cons, PyData.weightAll, List.length_cons, e]
      omega
    · rw [List.map_cons, PyData.showableAll, g.show_, i2]; rfl
    · have e : PyData.intsShort 13 (tupD ns) = true := by unfold tupD; rw [PyData.intsShort]; exact shortAll_sm h2
      rw [List.map_cons, PyData.intsShortAll, e, i3]; rfl
theorem good_tups {ts : List (List Int)} (h : ∀ ns ∈ ts, ns.length ≤ 3 ∧ ∀ n ∈ ns, SmI n) (hl : ts.length ≤ 1000) : GoodD (.list (ts.map tupD)) := by
  obtain ⟨w, s, i⟩ := goodAll h
  refine good_of (canLayAll_of _ fun d hd => ?_) ?_ ?_ ?_ ?_
  · obtain ⟨ns, _, rfl⟩ := List.mem_map.mp hd
    exact canLayAll_ints ns
  · have k := depthAll_of (m := 2) (ts.map tupD) fun d hd => by
      obtain ⟨ns, _, rfl⟩ := List.mem_map.mp hd
      exact depth_tup ns
    rw [PyData.depth]
    omega
  · rw [PyData.weight]
    have e : (2 : Nat) ^ 20 = 1048576 := by decide
    omega
  · rw [PyData.showable]; exact s
  · rw [PyData.intsShort]; exact i
theorem repr_good {K : PySem.W.Frag} {H : Hp} {p : Addr} {d : PyData} {Q : VK} (h : Dp K H (.ref p) d) (g : GoodD d) (q : Q (.str d.shown) H) : rRepr K [.ref p] H Q :=
  ⟨p, d, rfl, h, g.show_, g.dict, g.deep, g.fits, q⟩
theorem dp_tup {K : PySem.W.Frag} {H : Hp} {p : Addr} {ns : List Int} (h : H p = some (.tup (ns.map V.int))) : Dp K H (.ref p) (tupD ns) := .tup (SqT.of h) (dpAll_ints ns)
theorem repr_pair {K : PySem.W.Frag} {H : Hp} {p : Addr} {x y : Int} {Q : VK} (h : H p = some (.tup [.int x, .int y])) (q : (SmI x ∧ SmI y) ∧ Q (.str (tupD [x, y]).shown) H) : rRepr K [.ref p] H Q :=
  repr_good (dp_tup (ns := [x, y]) h) (good_tup (fun n hn => by
    rcases List.mem_cons.mp hn with rfl | hn
    · exact q.1.1
    · rw [List.mem_singleton.mp hn]; exact q.1.2) (by show 2 ≤ 1000; omega)) q.2
theorem units66 {k : Nat} {A : Around} (r : Room k A) : A.units + 66 < cLine := by have := r.un; omega
end Ur

namespace Ur
open PySem L2 PySem.Spec PyProof.Rows
/-! ### things of any kind: whole or not, lists of such -/
/-- whether a thing is a whole number -/
def IsW (H : Hp) (v : V) (b : Bool) : Prop := (b = true ∧ ∃ i, v = .int i) ∨ (b = false ∧ Kind H v ∧ ∀ i, v ≠ .int i)
theorem IsW.int {H : Hp} {i : Int} : IsW H (.int i) true := .inl ⟨rfl, i, rfl⟩
theorem IsW.bl {H : Hp} {c : Bool} : IsW H (.bl c) false := .inr ⟨rfl, .bl, fun _ z => nomatch z⟩
theorem IsW.str {H : Hp} {x : Str} : IsW H (.str x) false := .inr ⟨rfl, .str, fun _ z => nomatch z⟩
theorem IsW.non {H : Hp} : IsW H .non false := .inr ⟨rfl, .non, fun _ z => nomatch z⟩
theorem IsW.lst {H : Hp} {p : Addr} {xs : List V} (e : H p = some (.lst xs)) : IsW H (.ref p) false := .inr ⟨rfl, .lst e, fun _ z => nomatch z⟩
theorem IsW.tup {H : Hp} {p : Addr} {xs : List V} (e : H p = some (.tup xs)) : IsW H (.ref p) false := .inr ⟨rfl, .tup e, fun _ z => nomatch z⟩
theorem IsW.dct {H : Hp} {p : Addr} {xs : List (Key × V)} (e : H p = some (.dK xs)) : IsW H (.ref p) false := .inr ⟨rfl, .dct e, fun _ z => nomatch z⟩
theorem IsW.same {H H' : Hp} {v : V} {b : Bool} (w : IsW H v b) (s : Same H H') : IsW H' v b := by
  rcases w with w | ⟨e, k, n⟩
  · exact .inl w
  · exact .inr ⟨e, k.same s, n⟩
theorem Kind.whole {H : Hp} {v : V} (k : Kind H v) : (∃ i, v = .int i) ∨ ((∀ i, v ≠ .int i) ∧ IsW H v false) := by
  by_cases h : ∃ i, v = .int i
  · exact .inl h
  · exact .inr ⟨fun i e => h ⟨i, e⟩, .inr ⟨rfl, k, fun i e => h ⟨i, e⟩⟩⟩
theorem Kind.some {H : Hp} {p : Addr} (k : Kind H (.ref p)) : ∃ o, H p = Option.some o := by
  rcases k with ⟨i, e⟩ | ⟨c, e⟩ | ⟨x, e⟩ | e | ⟨q, xs, e, h⟩ | ⟨q, xs, e, h⟩ | ⟨q, xs, e, h⟩
  · cases e
  · cases e
  · cases e
  · cases e
  · cases e; exact ⟨_, h⟩
  · cases e; exact ⟨_, h⟩
  · cases e; exact ⟨_, h⟩
/-- the kind of a thing, a list told apart -/
theorem Kind.isList {K : PySem.W.Frag} {H : Hp} {v : V} (k : Kind H v) : (∃ p xs, v = .ref p ∧ H p = Option.some (.lst xs)) ∨ ((∀ p xs, v = .ref p → H p ≠ Option.some (.lst xs)) ∧ ∃ t, TyX K H v (.type t) ∧ kitB t "list" = Option.some false) := by
  rcases k with ⟨i, rfl⟩ | ⟨c, rfl⟩ | ⟨x, rfl⟩ | rfl | ⟨q, xs, rfl, h⟩ | ⟨q, xs, rfl, h⟩ | ⟨q, xs, rfl, h⟩
  · exact .inr ⟨fun _ _ e => (nomatch e), _, tyx_int, kb_int_list⟩
  · exact .inr ⟨fun _ _ e => (nomatch e), _, tyx_bl, kb_bool_list⟩
  · exact .inr ⟨fun _ _ e => (nomatch e), _, tyx_str, kb_str_list⟩
  · exact .inr ⟨fun _ _ e => (nomatch e), _, tyx_non, kb_NoneType_list⟩
  · exact .inl ⟨q, xs, rfl, h⟩
  · exact .inr ⟨fun p ys e z => (by cases e; rw [h] at z; cases z), _, tyx_tup h, kb_tuple_list⟩
  · exact .inr ⟨fun p ys e z => (by cases e; rw [h] at z; cases z), _, tyx_dK h, kb_dict_list⟩
/-- .. a tuple told apart -/
theorem Kind.isTup {K : PySem.W.Frag} {H : Hp} {v : V} (k : Kind H v) : (∃ p xs, v = .ref p ∧ H p = Option.some (.tup xs)) ∨ ((∀ p xs, v = .ref p → H p ≠ Option.some (.tup xs)) ∧ ∃ t, TyX K H v (.type t) ∧ kitB t "tuple" = Option.some false) := by
  rcases k with ⟨i, rfl⟩ | ⟨c, rfl⟩ | ⟨x, rfl⟩ | rfl | ⟨q, xs, rfl, h⟩ | ⟨q, xs, rfl, h⟩ | ⟨q, xs, rfl, h⟩
  · exact .inr ⟨fun _ _ e => (nomatch e), _, tyx_int, kb_int_tuple⟩
  · exact .inr ⟨fun _ _ e => (nomatch e), _, tyx_bl, kb_bool_tuple⟩
  · exact .inr ⟨fun _ _ e => (nomatch e), _, tyx_str, kb_str_tuple⟩
  · exact .inr ⟨fun _ _ e => (nomatch e), _, tyx_non, kb_NoneType_tuple⟩
  · exact .inr ⟨fun p ys e z => (by cases e; rw [h] at z; cases z), _, tyx_lst h, kb_list_tuple⟩
  · exact .inl ⟨q, xs, rfl, h⟩
  · exact .inr ⟨fun p ys e z => (by cases e; rw [h] at z; cases z), _, tyx_dK h, kb_dict_tuple⟩
/-- all these addresses are taken -/
structure Old (L : Addr → Prop) (H : Hp) : Prop where
  has : ∀ b, L b → ∃ o, H b = some o
theorem Old.free {L : Addr → Prop} {H : Hp} {p : Addr} (o : Old L H) (n : H p = none) : ∀ b, L b → p ≠ b := fun b l e => by
  obtain ⟨u, h⟩ := o.has b l
  rw [← e, n] at h
  cases h
theorem Old.freeV {L : Addr → Prop} {H : Hp} {p : Addr} (o : Old L H) (n : H p = none) : ∀ b, L b → V.ref p ≠ .ref b := fun b l e => o.free n b l (by injection e)
theorem Old.same {L : Addr → Prop} {H H' : Hp} (o : Old L H) (s : Same H H') : Old L H' := ⟨fun b l => by
  obtain ⟨u, h⟩ := o.has b l
  exact ⟨u, s _ _ h⟩⟩
theorem Old.but {L : Addr → Prop} {a : Addr} {u : HO} {H H' : Hp} (o : Old L H) (b : But a H H') (h : H' a = some u) : Old L H' := ⟨fun c l => by
  by_cases e : c = a
  · rw [e]; exact ⟨u, h⟩
  · obtain ⟨w, k⟩ := o.has c l
    exact ⟨w, b _ _ e k⟩⟩
def Bar0 : Addr → Prop := fun _ => False
def Bar1 (a : Addr) : Addr → Prop := fun b => b = a
def Bar2 (a c : Addr) : Addr → Prop := fun b => b = a ∨ b = c
theorem Bar1.self {a : Addr} : Bar1 a a := rfl
theorem Bar1.ne {a p : Addr} (h : p ≠ a) : ∀ b, Bar1 a b → p ≠ b := fun b e z => h (z.trans e)
theorem Bar1.old {a : Addr} {o : HO} {H : Hp} (e : H a = some o) : Old (Bar1 a) H := ⟨fun b l => by cases l; exact ⟨o, e⟩⟩
theorem Bar2.l {a c : Addr} : Bar2 a c a := .inl rfl
theorem Bar2.r {a c : Addr} : Bar2 a c c := .inr rfl
theorem Bar2.ne {a c p : Addr} (h : p ≠ a) (k : p ≠ c) : ∀ b, Bar2 a c b → p ≠ b := fun b e z => e.elim (fun e => h (z.trans e)) fun e => k (z.trans e)
theorem Bar2.old {a c : Addr} {o u : HO} {H : Hp} (e : H a = some o) (f : H c = some u) : Old (Bar2 a c) H := ⟨fun b l => by
  rcases l with rfl | rfl
  · exact ⟨o, e⟩
  · exact ⟨u, f⟩⟩
theorem neV {L : Addr → Prop} {p : Addr} (n : ∀ b, L b → p ≠ b) : ∀ b, L b → V.ref p ≠ .ref b := fun b l e => n b l (by injection e)
/-- items of known kinds, none of them at L -/
structure Its (L : Addr → Prop) (H : Hp) (xs : List V) : Prop where
  all : ∀ x ∈ xs, Kind H x ∧ ∀ b, L b → x ≠ .ref b
theorem Its.nil {L : Addr → Prop} {H : Hp} : Its L H [] := ⟨fun _ h => nomatch h⟩
theorem Its.ints {L : Addr → Prop} {H : Hp} (ns : List Int) : Its L H (ns.map V.int) := ⟨fun x h => by
  obtain ⟨n, _, rfl⟩ := List.mem_map.mp h
  exact ⟨.int, fun _ _ z => nomatch z⟩⟩
theorem Its.sub {L : Addr → Prop} {H : Hp} {xs ys : List V} (t : Its L H xs) (f : ∀ y ∈ ys, y ∈ xs) : Its L H ys := ⟨fun y h => t.all y (f y h)⟩
theorem Its.app {L : Addr → Prop} {H : Hp} {xs ys : List V} (t : Its L H xs) (u : Its L H ys) : Its L H (xs ++ ys) := ⟨fun y h => by
  rcases List.mem_append.mp h with k | k
  · exact t.all y k
  · exact u.all y k⟩
theorem Its.one {L : Addr → Prop} {H : Hp} {x : V} (k : Kind H x) (n : ∀ b, L b → x ≠ .ref b) : Its L H [x] := ⟨fun y h => by rw [List.mem_singleton.mp h]; exact ⟨k, n⟩⟩
theorem Its.two {L : Addr → Prop} {H : Hp} {x y : V} (kx : Kind H x) (nx : ∀ b, L b → x ≠ .ref b) (ky : Kind H y) (ny : ∀ b, L b → y ≠ .ref b) : Its L H [x, y] := (Its.one kx nx).app (.one ky ny)
theorem Its.rep {L : Addr → Prop} {H : Hp} {xs : List V} (t : Its L H xs) (k : Nat) : Its L H (List.replicate k xs).flatten := ⟨fun y h => by
  obtain ⟨l, h1, h2⟩ := List.mem_flatten.mp h
  rw [List.eq_of_mem_replicate h1] at h2
  exact t.all y h2⟩
theorem Its.same {L : Addr → Prop} {H H' : Hp} {xs : List V} (t : Its L H xs) (s : Same H H') : Its L H' xs := ⟨fun x h => ⟨(t.all x h).1.same s, (t.all x h).2⟩⟩
theorem Its.but {L : Addr → Prop} {a : Addr} {H H' : Hp} {xs : List V} (t : Its L H xs) (l : L a) (b : But a H H') : Its L H' xs := ⟨fun x h => ⟨(t.all x h).1.but b ((t.all x h).2 a l), (t.all x h).2⟩⟩
theorem Its.less {L M : Addr → Prop} {H : Hp} {xs : List V} (t : Its L H xs) (f : ∀ b, M b → L b) : Its M H xs := ⟨fun x h => ⟨(t.all x h).1, fun b m => (t.all x h).2 b (f b m)⟩⟩
/-- a thing, a list's items of known kinds; none of this is at L -/
structure Th (L : Addr → Prop) (H : Hp) (v : V) : Prop where
  kind : Kind H v
  ne : ∀ b, L b → v ≠ .ref b
  items : ∀ p xs, v = .ref p → H p = some (.lst xs) → xs.length ≤ 2000 ∧ Its L H xs
theorem Th.same {L : Addr → Prop} {H H' : Hp} {v : V} (t : Th L H v) (s : Same H H') : Th L H' v := ⟨t.kind.same s, t.ne, fun p xs e h => by
  subst e
  obtain ⟨o, ho⟩ := t.kind.some
  have z := s _ _ ho
  rw [h] at z
  cases z
  obtain ⟨l, f⟩ := t.items p xs rfl ho
  exact ⟨l, f.same s⟩⟩
theorem Th.but {L : Addr → Prop} {a : Addr} {H H' : Hp} {v : V} (t : Th L H v) (la : L a) (b : But a H H') : Th L H' v := ⟨t.kind.but b (t.ne a la), t.ne, fun p xs e h => by
  subst e
  obtain ⟨o, ho⟩ := t.kind.some
  have z := b _ _ (fun z => t.ne a la (by rw [z])) ho
  rw [h] at z
  cases z
  obtain ⟨l, f⟩ := t.items p xs rfl ho
  exact ⟨l, f.but la b⟩⟩
theorem Th.less {L M : Addr → Prop} {H : Hp} {v : V} (t : Th L H v) (f : ∀ b, M b → L b) : Th M H v := ⟨t.kind, fun b m => t.ne b (f b m), fun p xs e h => ⟨(t.items p xs e h).1, (t.items p xs e h).2.less f⟩⟩
theorem Th.lst {L : Addr → Prop} {H : Hp} {p : Addr} {xs : List V} (e : H p = some (.lst xs)) (n : ∀ b, L b → p ≠ b) (l : xs.length ≤ 2000) (t : Its L H xs) : Th L H (.ref p) :=
  ⟨.lst e, neV n, fun q ys z h => by cases z; rw [e] at h; cases h; exact ⟨l, t⟩⟩
theorem Th.of {L : Addr → Prop} {H : Hp} {v : V} (k : Kind H v) (n : ∀ b, L b → v ≠ .ref b) (f : ∀ p xs, v = .ref p → H p ≠ some (.lst xs)) : Th L H v := ⟨k, n, fun p xs e h => (f p xs e h).elim⟩
theorem Th.int {L : Addr → Prop} {H : Hp} {i : Int} : Th L H (.int i) := .of .int (fun _ _ z => nomatch z) fun _ _ z => nomatch z
theorem Th.bl {L : Addr → Prop} {H : Hp} {c : Bool} : Th L H (.bl c) := .of .bl (fun _ _ z => nomatch z) fun _ _ z => nomatch z
theorem Th.str {L : Addr → Prop} {H : Hp} {x : Str} : Th L H (.str x) := .of .str (fun _ _ z => nomatch z) fun _ _ z => nomatch z
theorem Th.non {L : Addr → Prop} {H : Hp} : Th L H .non := .of .non (fun _ _ z => nomatch z) fun _ _ z => nomatch z
theorem Th.tup {L : Addr → Prop} {H : Hp} {p : Addr} {xs : List V} (e : H p = some (.tup xs)) (n : ∀ b, L b → p ≠ b) : Th L H (.ref p) := .of (.tup e) (neV n) fun q ys z h => by cases z; rw [e] at h; cases h
theorem Th.dct {L : Addr → Prop} {H : Hp} {p : Addr} {xs : List (Key × V)} (e : H p = some (.dK xs)) (n : ∀ b, L b → p ≠ b) : Th L H (.ref p) := .of (.dct e) (neV n) fun q ys z h => by cases z; rw [e] at h; cases h
/-! lists of values -/
theorem atI_get {xs : List V} {i : Int} (h0 : 0 ≤ i) (h1 : i < xs.length) : ∃ v, atI xs i = some v ∧ v ∈ xs ∧ xs[i.toNat]? = some v := by
  obtain ⟨k, rfl⟩ := Int.eq_ofNat_of_zero_le h0
  have hj : k < xs.length := by omega
  exact ⟨xs[k], atI_nat (List.getElem?_eq_getElem hj), List.getElem_mem hj, by rw [Int.toNat_natCast]; exact List.getElem?_eq_getElem hj⟩
theorem mem_cut {xs : List V} {lo hi : Option Int} {x : V} (h : x ∈ cutV xs lo hi) : x ∈ xs := by
  unfold cutV at h
  exact List.mem_of_mem_drop (List.mem_of_mem_take h)
/-- a cut of a list, its contents no longer looked at -/
theorem cut_is (xs : List V) (lo hi : Option Int) : ∃ ys, cutV xs lo hi = ys ∧ ys.length ≤ xs.length ∧ ∀ y ∈ ys, y ∈ xs := ⟨_, rfl, cutV_length _ _ _, fun _ h => mem_cut h⟩
theorem rep01 (b : Bool) (xs : List V) : ((List.replicate (if b = true then (1 : Int) else 0).toNat xs).flatten).length ≤ xs.length := by
  cases b <;> simp
theorem len_any {K : PySem.W.Frag} {H : Hp} {p : Addr} {xs : List V} {Q : VK} (h : SqL K H p xs) (q : Q (.int xs.length) H) : rLenI K [.ref p] H Q := ⟨p, _, rfl, Or.inl h, q⟩
end Ur
namespace Ur
open PySem L2
theorem nwA' {H : Hp} {x p : Addr} {o : HO} (h : H x = some o) (n : H p = none) : p ≠ x := fun e => by rw [e, h] at n; cases n
theorem ints_of : ∀ {xs : List V}, (∀ x ∈ xs, ∃ n : Int, x = .int n) → ∃ ns : List Int, xs = ns.map V.int
  | [], _ => ⟨[], rfl⟩
  | x :: xs, h => by
    obtain ⟨n, rfl⟩ := h x List.mem_cons_self
    obtain ⟨ns, e⟩ := ints_of fun y hy => h y (List.mem_cons_of_mem _ hy)
    exact ⟨n :: ns, by rw [e]; rfl⟩
theorem int_mem {ns : List Int} {n : Int} : V.int n ∈ ns.map V.int ↔ n ∈ ns := ⟨fun h => by
  obtain ⟨m, hm, e⟩ := List.mem_map.mp h
  cases e; exact hm, fun h => List.mem_map.mpr ⟨n, h, rfl⟩⟩
theorem take_snocV {xs : List V} {i : Nat} {x : V} (h : xs[i]? = some x) : xs.take (i + 1) = xs.take i ++ [x] := by
  rw [List.take_succ, h]; rfl
end Ur

namespace Ur
open PySem PySem.Spec PyProof.Rows L2
/-! ### == and != of lists of things of any kind: of unlike lengths, or with the very same items -/
def rEqL (K : PySem.W.Frag) (neg : Bool) : R2 := fun x y H Q => ∃ (a b : Addr) (xs ys : List V), x = .ref a ∧ y = .ref b ∧ SqL K H a xs ∧ SqL K H b ys ∧
  ((xs.length ≠ ys.length ∧ Q (.bl neg) H) ∨ (xs = ys ∧ (∀ v ∈ xs, flatV v = true ∨ ∃ p, v = .ref p) ∧ Q (.bl (!neg)) H))
theorem eqV_self : ∀ {v : V}, flatV v = true → eqV v v = true
  | .non, _ => rfl
  | .bl b, _ => by simp [eqV]
  | .int i, _ => by simp [eqV]
  | .str x, _ => by simp [eqV]
theorem eqAt_ref {A : Around} {s : Shared} {p : Addr} : SeqAt.EqAt A s (.ref p) (.ref p) true := fun prog w E Q h => by
  unfold eqBool
  refine wpAny_holding ?_
  rw [if_pos (by simp)]
  exact wpAny_pure (M := model prog w) (E := E) h
theorem items_same {A : Around} {s : Shared} {xs : List V} {us ws : List Value} (r1 : Vals xs us) (r2 : Vals xs ws) (f : ∀ v ∈ xs, flatV v = true ∨ ∃ p, v = .ref p) :
    ∀ j (h1 : j < us.toArray.size) (h2 : j < ws.toArray.size), SeqAt.EqAt A s us.toArray[j] ws.toArray[j] true := fun j h1 h2 => by
  have hx : j < xs.length := by rw [r1.length]; simpa using h1
  have e0 := List.getElem?_eq_getElem hx
  obtain ⟨u, e1, ru⟩ := r1.get e0
  obtain ⟨v, e2, rv⟩ := r2.get e0
  have g1 : us.toArray[j] = u := by
    have := (List.getElem?_eq_some_iff.mp e1).2
    simpa using this
  have g2 : ws.toArray[j] = v := by
    have := (List.getElem?_eq_some_iff.mp e2).2
    simpa using this
  rw [g1, g2]
  rcases f _ (List.getElem_mem hx) with k | ⟨p, k⟩
  · have z := eqAt_V (A := A) (s := s) ru rv k k
    rwa [eqV_self k] at z
  · rw [k] at ru rv
    cases (show u = Value.ref p from ru)
    cases (show v = Value.ref p from rv)
    exact eqAt_ref
section
variable {X : Cx} {K : PySem.W.Frag}
theorem op_eqL (hK : X.K = K) (hu : X.A.units + 64 < cLine) : OpR X (compareOp .Eq) (rEqL K false) := by
  subst hK
  intro pins s σ H x y v u Q I rx ry h
  obtain ⟨a, b, xs, ys, rfl, rfl, ha, hb, h⟩ := h
  cases (show v = Value.ref a from rx)
  cases (show u = Value.ref b from ry)
  obtain ⟨i1, r1, p1, _⟩ := I.list ha
  obtain ⟨i2, r2, p2, _⟩ := I.list hb
  have l1 := r1.length
  have l2 := r2.length
  rcases h with ⟨hn, q⟩ | ⟨rfl, f, q⟩
  · exact SeqAt.RcAt.lists_lengths p1.isList p2.isList (by simp; omega) (by omega) X.prog X.w _ _ ⟨.bl _, H, I, rfl, q⟩
  · have z := SeqAt.RcAt.lists (A := X.A) (e := fun _ => true) p1.isList p2.isList (by simp; omega) (by omega) (items_same r1 r2 f) X.prog X.w
    have all : (List.range i1.toArray.size).all (fun _ => true) = true := List.all_eq_true.mpr fun _ _ => rfl
    rw [all] at z
    exact z _ _ ⟨.bl _, H, I, rfl, q⟩
theorem op_neL (hK : X.K = K) (hu : X.A.units + 64 < cLine) : OpR X (compareOp .NotEq) (rEqL K true) := by
  subst hK
  intro pins s σ H x y v u Q I rx ry h
  obtain ⟨a, b, xs, ys, rfl, rfl, ha, hb, h⟩ := h
  cases (show v = Value.ref a from rx)
  cases (show u = Value.ref b from ry)
  obtain ⟨i1, r1, p1, _⟩ := I.list ha
  obtain ⟨i2, r2, p2, _⟩ := I.list hb
  have l1 := r1.length
  have l2 := r2.length
  rcases h with ⟨hn, q⟩ | ⟨rfl, f, q⟩
  · exact SeqAt.RcNeAt.lists_lengths p1.isList p2.isList (by simp; omega) (by omega) X.prog X.w _ _ ⟨.bl _, H, I, rfl, q⟩
  · have z := SeqAt.RcNeAt.lists (A := X.A) (e := fun _ => true) p1.isList p2.isList (by simp; omega) (by omega) (items_same r1 r2 f) X.prog X.w
    have all : (List.range i1.toArray.size).all (fun _ => true) = true := List.all_eq_true.mpr fun _ _ => rfl
    rw [all] at z
    exact z _ _ ⟨.bl _, H, I, rfl, q⟩
end
/-- against a list without items -/
theorem rEqL_nil {K : PySem.W.Frag} {H : Hp} {a b : Addr} {xs : List V} {Q : VK} (h1 : SqL K H a xs) (h2 : SqL K H b []) (q : Q (.bl xs.isEmpty) H) : rEqL K false (.ref a) (.ref b) H Q := by
  cases xs with
  | nil => exact ⟨a, b, [], [], rfl, rfl, h1, h2, .inr ⟨rfl, (fun _ h => nomatch h), q⟩⟩
  | cons x xs => exact ⟨a, b, _, [], rfl, rfl, h1, h2, .inl ⟨by simp, q⟩⟩
theorem rNeL_nil {K : PySem.W.Frag} {H : Hp} {a b : Addr} {xs : List V} {Q : VK} (h1 : SqL K H a xs) (h2 : SqL K H b []) (q : Q (.bl (!xs.isEmpty)) H) : rEqL K true (.ref a) (.ref b) H Q := by
  cases xs with
  | nil => exact ⟨a, b, [], [], rfl, rfl, h1, h2, .inr ⟨rfl, (fun _ h => nomatch h), q⟩⟩
  | cons x xs => exact ⟨a, b, _, [], rfl, rfl, h1, h2, .inl ⟨by simp, q⟩⟩
theorem Kind.flat {H : Hp} {v : V} (k : Kind H v) : flatV v = true ∨ ∃ p, v = .ref p := by
  rcases k with ⟨i, rfl⟩ | ⟨b, rfl⟩ | ⟨x, rfl⟩ | rfl | ⟨p, xs, rfl, _⟩ | ⟨p, xs, rfl, _⟩ | ⟨p, xs, rfl, _⟩
  · exact .inl rfl
  · exact .inl rfl
  · exact .inl rfl
  · exact .inl rfl
  · exact .inr ⟨p, rfl⟩
  · exact .inr ⟨p, rfl⟩
  · exact .inr ⟨p, rfl⟩
theorem rEqL_same {K : PySem.W.Frag} {H : Hp} {neg : Bool} {a b : Addr} {xs : List V} {Q : VK} (h1 : SqL K H a xs) (h2 : SqL K H b xs) (f : ∀ x ∈ xs, Kind H x) (q : Q (.bl (!neg)) H) : rEqL K neg (.ref a) (.ref b) H Q :=
  ⟨a, b, xs, xs, rfl, rfl, h1, h2, .inr ⟨rfl, fun v hv => (f v hv).flat, q⟩⟩
section
variable {K : PySem.W.Frag} {a : Addr} {xs : List V} {σ : L2.St} {H1 : Hp} {Dl : Addr} {te : TE} {tt : TT} {vs : List Nat} {j : Nat} {Qd : Hp → Prop}
/-- [e for x in a list of things if t] -/
theorem lc_valsIf (t : V → Bool) (f : V → V) (hn : xs.length ≤ 1000000) (ha : SqL K H1 a xs) (hD : H1 Dl = none) (hw : ∀ x, wipe ((wipe σ vs).set j (some x)) vs = wipe σ vs)
    (ht : ∀ (x : V) H', x ∈ xs → Same H1 H' → ∀ Q' : Bool → Hp → Prop, (∀ H4, Same H' H4 → Q' (t x) H4) → tt ((wipe σ vs).set j (some x)) H' Q')
    (he : ∀ (x : V) H', x ∈ xs → t x = true → Same H1 H' → ∀ Q' : VK, (∀ H4, Same H' H4 → Q' (f x) H4) → te ((wipe σ vs).set j (some x)) H' Q')
    (hd : ∀ H', Same H1 H' → H' Dl = some (.lst ((xs.filter t).map f)) → Qd H') :
    ∃ W : Nat → Nat → Hp → Prop, (∃ m, W 0 m (upd H1 Dl (.lst []))) ∧ ∀ i m H, W i m H →
      ((Itl K a).stop i H ∧ Qd H) ∨ ((Itl K a).go i H ∧ ∃ Nx : Hp → Prop, (∀ H', Nx H' → ∃ m', m' < m ∧ W (i + 1) m' H') ∧ ∀ x H', (Itl K a).yld i H x H' → gName j x (wipe σ vs) H' fun σ2 H2 => wipe σ2 vs = wipe σ vs ∧ tt σ2 H2 fun b H3 =>
        if b = true then te σ2 H3 fun y H4 => ∃ acc, H4 Dl = some (.lst acc) ∧ acc.length < sizeLine ∧ Nx (upd H4 Dl (.lst (acc ++ [y]))) else Nx H3) := by
  refine lc_list (K := K) (a := a) (xs := xs) (fun i H' => Same H1 H' ∧ H' Dl = some (.lst (((xs.take i).filter t).map f))) ⟨same_new hD, upd_same⟩ (fun i H' _ p => p.1.seq ha) (fun i x H' hx p => ?_) (fun H' p => ?_)
  · have hi := (List.getElem?_eq_some_iff.mp hx).1
    have hm := List.mem_of_getElem? hx
    refine ⟨hw _, ?_⟩
    refine ht x H' hm p.1 _ fun H3 s3 => ?_
    have e1 := take_snocV hx
    cases hb : t x with
    | true =>
      refine (if_pos rfl).mpr ?_
      refine he x H3 hm hb (p.1.trans s3) _ fun H4 s => ⟨_, s _ _ (s3 _ _ p.2), szl ?_, same_upd' hD ((p.1.trans s3).trans s), ?_⟩
      · have := List.length_filter_le t (xs.take i)
        rw [List.length_take] at this
        rw [List.length_map]; omega
      rw [upd_same, e1, List.filter_append, List.map_append, List.filter_cons, if_pos hb]
      rfl
    | false =>
      refine (if_neg Bool.false_ne_true).mpr ⟨p.1.trans s3, ?_⟩
      rw [e1, List.filter_append, List.map_append, List.filter_cons, if_neg (by rw [hb]; exact Bool.false_ne_true)]
      simpa using s3 _ _ p.2
  · rw [List.take_length] at p
    exact hd H' p.1 p.2
/-- [e for x in a list of things] -/
theorem lc_vals (f : V → V) (hn : xs.length ≤ 1000000) (ha : SqL K H1 a xs) (hD : H1 Dl = none) (hw : ∀ x, wipe ((wipe σ vs).set j (some x)) vs = wipe σ vs)
    (he : ∀ (x : V) H', x ∈ xs → Same H1 H' → ∀ Q' : VK, (∀ H4, Same H' H4 → Q' (f x) H4) → te ((wipe σ vs).set j (some x)) H' Q')
    (hd : ∀ H', Same H1 H' → H' Dl = some (.lst (xs.map f)) → Qd H') :
    ∃ W : Nat → Nat → Hp → Prop, (∃ m, W 0 m (upd H1 Dl (.lst []))) ∧ ∀ i m H, W i m H →
      ((Itl K a).stop i H ∧ Qd H) ∨ ((Itl K a).go i H ∧ ∃ Nx : Hp → Prop, (∀ H', Nx H' → ∃ m', m' < m ∧ W (i + 1) m' H') ∧ ∀ x H', (Itl K a).yld i H x H' → gName j x (wipe σ vs) H' fun σ2 H2 => wipe σ2 vs = wipe σ vs ∧ tYes σ2 H2 fun b H3 =>
        if b = true then te σ2 H3 fun y H4 => ∃ acc, H4 Dl = some (.lst acc) ∧ acc.length < sizeLine ∧ Nx (upd H4 Dl (.lst (acc ++ [y]))) else Nx H3) := by
  refine lc_list (K := K) (a := a) (xs := xs) (fun i H' => Same H1 H' ∧ H' Dl = some (.lst ((xs.take i).map f))) ⟨same_new hD, upd_same⟩ (fun i H' _ p => p.1.seq ha) (fun i x H' hx p => ?_) (fun H' p => ?_)
  · have hi := (List.getElem?_eq_some_iff.mp hx).1
    have hm := List.mem_of_getElem? hx
    refine ⟨hw _, tyes_ok ?_⟩
    refine he x H' hm p.1 _ fun H4 s => ⟨_, s _ _ p.2, szl ?_, same_upd' hD (p.1.trans s), ?_⟩
    · rw [List.length_map, List.length_take]; omega
    rw [upd_same, take_snocV hx, List.map_append]
    rfl
  · rw [List.take_length] at p
    exact hd H' p.1 p.2
end
/-- whether a value is a whole number -/
def isI : V → Bool
  | .int _ => true
  | _ => false
theorem isI_int {v : V} (h : isI v = true) : ∃ i, v = .int i := by
  cases v <;> first | exact ⟨_, rfl⟩ | cases h
theorem Kind.isW {H : Hp} {v : V} (k : Kind H v) : IsW H v (isI v) := by
  rcases k.whole with ⟨i, rfl⟩ | ⟨hn, w⟩
  · exact .int
  · have : isI v = false := by
      cases h : isI v with
      | false => rfl
      | true => obtain ⟨i, e⟩ := isI_int h; exact (hn i e).elim
    rw [this]; exact w
end Ur

namespace Ur
open PySem L2
/-! ### windows side by side -/
theorem ulen_is {A ms : List Int} (nd : ms.Nodup) (h : ∀ x, x ∈ ms ↔ x ∈ A) : ms.length = ulen A :=
  ((List.perm_ext_iff_of_nodup nd (uni_nodup A)).mpr fun x => (h x).trans (mem_uni A x).symm).length_eq
theorem filter_two (t : Int → Bool) : ∀ ms : List Int, (ms.filter t).length + (ms.filter fun x => !t x).length = ms.length
  | [] => rfl
  | x :: ms => by
    have ih := filter_two t ms
    cases h : t x <;> simp [List.filter_cons, h] <;> omega
/-- those in both are as many as the two have more than the whole -/
theorem ulen_both {A B ms : List Int} (nd : ms.Nodup) (h : ∀ x, x ∈ ms ↔ x ∈ A) : (ms.filter fun x => decide (x ∈ B)).length + ulen (A ++ B) = ulen A + ulen B := by
  have h1 := ulen_is nd h
  have h2 := filter_two (fun x => decide (x ∈ B)) ms
  have h3 : ((ms.filter fun x => !decide (x ∈ B)) ++ uni B).length = ulen (A ++ B) := by
    refine ulen_is ?_ fun x => ?_
    · rw [List.nodup_append]
      refine ⟨nd.filter _, uni_nodup B, fun a ha b hb e => ?_⟩
      rw [List.mem_filter] at ha
      rw [← e, mem_uni] at hb
      simp [hb] at ha
    · rw [List.mem_append, List.mem_append, List.mem_filter, mem_uni, h]
      by_cases hb : x ∈ B
      · simp [hb]
      · simp [hb]
  rw [List.length_append] at h3
  have h4 : (uni B).length = ulen B := rfl
  omega
theorem win_join {ns : List Int} {f a b : Nat} (h1 : f ≤ a) (h2 : a ≤ b) : (ns.drop f).take (a - f) ++ (ns.drop a).take (b - a) = (ns.drop f).take (b - f) := by
  have e : (ns.drop a) = (ns.drop f).drop (a - f) := by rw [List.drop_drop, show f + (a - f) = a from by omega]
  rw [e, show b - f = (a - f) + (b - a) from by omega, List.take_add]
theorem wun_both {ns ms : List Int} {f a b : Int} (h0 : 0 ≤ f) (h1 : f ≤ a) (h2 : a ≤ b) (nd : ms.Nodup) (h : ∀ x, x ∈ ms ↔ x ∈ (ns.drop f.toNat).take (a.toNat - f.toNat)) :
    ((ms.filter fun x => decide (x ∈ (ns.drop a.toNat).take (b.toNat - a.toNat))).length : Int) = (wun ns f a : Int) + (wun ns a b : Int) - (wun ns f b : Int) := by
  have k := ulen_both (B := (ns.drop a.toNat).take (b.toNat - a.toNat)) nd h
  rw [win_join (by omega) (by omega)] at k
  have e1 : ulen ((ns.drop f.toNat).take (a.toNat - f.toNat)) = wun ns f a := rfl
  have e2 : ulen ((ns.drop a.toNat).take (b.toNat - a.toNat)) = wun ns a b := rfl
  have e3 : ulen ((ns.drop f.toNat).take (b.toNat - f.toNat)) = wun ns f b := rfl
  omega
theorem wun_parts {ns : List Int} {f a b : Int} (h0 : 0 ≤ f) (h1 : f ≤ a) (h2 : a ≤ b) (h3 : b ≤ ns.length) : wun ns f a ≤ wun ns f b ∧ wun ns a b ≤ wun ns f b := by
  rw [wun_N, wun_N, wun_N]
  constructor
  · have := wunN_monoB (ns := ns) (f := f.toNat) (k := b.toNat - a.toNat) (b := a.toNat) (by omega) (by omega)
    rwa [show a.toNat + (b.toNat - a.toNat) = b.toNat from by omega] at this
  · have := wunN_monoF (ns := ns) (b := b.toNat) (by omega) (k := a.toNat - f.toNat) (f := f.toNat) (by omega)
    rwa [show f.toNat + (a.toNat - f.toNat) = a.toNat from by omega] at this
/-- one place more behind -/
theorem wun_more {ns : List Int} {f b : Int} (h0 : 0 ≤ f) (h1 : f ≤ b) (h2 : b < ns.length) :
    (wun ns f (b + 1) : Int) - (wun ns f b : Int) = if (!decide (ns.getD b.toNat 0 ∈ (ns.drop f.toNat).take (b.toNat - f.toNat))) = true then 1 else 0 := by
  rw [wun_N, wun_N, show (b + 1).toNat = b.toNat + 1 from by omega, wunN_up (by omega) (by omega)]
  have k := last_in (ns := ns) (f := f.toNat) (k := b.toNat - f.toNat) (by omega)
  rw [show f.toNat + (b.toNat - f.toNat) = b.toNat from by omega] at k
  by_cases h : lastAt ns b.toNat (ns.getD b.toNat 0) < (f.toNat : Int)
  · rw [if_pos h, if_pos (by rw [decide_eq_false (fun z => k.mp z h)]; rfl)]; omega
  · rw [if_neg h, if_neg (by rw [decide_eq_true (k.mpr h)]; decide)]; omega
/-- one place more ahead -/
theorem wun_ahead {ns : List Int} {f b : Int} (h0 : 0 < f) (h1 : f ≤ b) (h2 : b ≤ ns.length) :
    (wun ns (f - 1) b : Int) - (wun ns f b : Int) = if (!decide (ns.getD (f - 1).toNat 0 ∈ (ns.drop f.toNat).take (b.toNat - f.toNat))) = true then 1 else 0 := by
  have e : (ns.drop (f - 1).toNat).take (b.toNat - (f - 1).toNat) = ns.getD (f - 1).toNat 0 :: (ns.drop f.toNat).take (b.toNat - f.toNat) := by
    have hd : (f - 1).toNat < ns.length := by omega
    rw [List.drop_eq_getElem_cons hd, show b.toNat - (f - 1).toNat = (b.toNat - f.toNat) + 1 from by omega, List.take_succ_cons, show (f - 1).toNat + 1 = f.toNat from by omega]
    rw [List.getD_eq_getElem?_getD, List.getElem?_eq_getElem hd]; rfl
  have e1 : wun ns (f - 1) b = ulen (ns.getD (f - 1).toNat 0 :: (ns.drop f.toNat).take (b.toNat - f.toNat)) := by rw [← e]; rfl
  rw [e1, ulen_cons]
  have e2 : wun ns f b = ulen ((ns.drop f.toNat).take (b.toNat - f.toNat)) := rfl
  rw [e2]
  by_cases h : ns.getD (f - 1).toNat 0 ∈ (ns.drop f.toNat).take (b.toNat - f.toNat)
  · rw [if_pos h, if_neg (by rw [decide_eq_true h]; decide)]; omega
  · rw [if_neg h, if_pos (by rw [decide_eq_false h]; rfl)]; omega
/-- first places of the whole -/
theorem firP_join {ns : List Int} {f a b : Int} (h0 : 0 ≤ f) (h1 : f ≤ a) (h2 : a ≤ b) (h3 : b ≤ ns.length) :
    firP ns f b = firP ns f a ++ (firP ns a b).filter fun x => !decide (ns.getD x.toNat 0 ∈ (ns.drop f.toNat).take (a.toNat - f.toNat)) := by
  unfold firP
  rw [show (b - f).toNat = (a - f).toNat + (b - a).toNat from by omega, List.range_add, List.filter_append, List.map_append]
  congr 1
  rw [List.filter_map, List.map_map, List.filter_map, List.filter_filter]
  have e : ((List.range (b - a).toNat).filter ((fun k => decide (lp ns (f.toNat + k) < f)) ∘ fun x => (a - f).toNat + x)) = (List.range (b - a).toNat).filter fun k => ((fun x => !decide (ns.getD x.toNat 0 ∈ (ns.drop f.toNat).take (a.toNat - f.toNat))) ∘ fun (k : Nat) => a + (k : Int)) k && decide (lp ns (a.toNat + k) < a) := by
    refine List.filter_congr fun k hk => ?_
    rw [List.mem_range] at hk
    show decide (lp ns (f.toNat + ((a - f).toNat + k)) < f) = (!decide (ns.getD (a + (k : Int)).toNat 0 ∈ (ns.drop f.toNat).take (a.toNat - f.toNat)) && decide (lp ns (a.toNat + k) < a))
    rw [show f.toNat + ((a - f).toNat + k) = a.toNat + k from by omega, show (a + (k : Int)).toNat = a.toNat + k from by omega]
    have k1 := last_in (ns := ns) (f := f.toNat) (k := a.toNat + k - f.toNat) (by omega)
    have k2 := last_in (ns := ns) (f := a.toNat) (k := k) (by omega)
    rw [show f.toNat + (a.toNat + k - f.toNat) = a.toNat + k from by omega, ← win_join (a := a.toNat) (by omega) (by omega), show a.toNat + k - a.toNat = k from by omega, List.mem_append] at k1
    have e1 : lp ns (a.toNat + k) = lastAt ns (a.toNat + k) (ns.getD (a.toNat + k) 0) := rfl
    rw [← e1] at k1 k2
    rw [show ((f.toNat : Nat) : Int) = f from by omega] at k1
    rw [show ((a.toNat : Nat) : Int) = a from by omega] at k2
    by_cases g1 : ns.getD (a.toNat + k) 0 ∈ (ns.drop f.toNat).take (a.toNat - f.toNat)
    · have := k1.mp (.inl g1)
      rw [decide_eq_true g1, decide_eq_false this]; rfl
    · by_cases g2 : lp ns (a.toNat + k) < a
      · have g3 : ¬ ¬ lp ns (a.toNat + k) < f := fun z => by
          rcases k1.mpr z with z | z
          · exact g1 z
          · exact k2.mp z g2
        have g4 := Decidable.of_not_not g3
        rw [decide_eq_false g1, decide_eq_true g2, decide_eq_true g4]; rfl
      · have g4 := k1.mp (.inr (k2.mpr g2))
        rw [decide_eq_false g1, decide_eq_false g2, decide_eq_false g4]; rfl
  rw [e]
  refine List.map_congr_left fun k _ => ?_
  show f + (((a - f).toNat + k : Nat) : Int) = a + (k : Int)
  omega
theorem firP_in {ns : List Int} {f b x : Int} (h : x ∈ firP ns f b) : f ≤ x ∧ x < b := by
  unfold firP at h
  obtain ⟨k, hk, rfl⟩ := List.mem_map.mp h
  have := List.mem_range.mp (List.mem_filter.mp hk).1
  omega
end Ur

namespace Ur
open PySem L2
/-! ### first places, told and looked at -/
theorem firP_pair (ns : List Int) (f b : Int) : (firP ns f b).Pairwise (· < ·) := by
  unfold firP
  rw [List.pairwise_map]
  exact (List.pairwise_lt_range.filter _).imp fun h => by omega
theorem firP_s {ns : List Int} {f : Int} {k : Nat} (h0 : 0 ≤ f) : firP ns f (f + (k : Int) + 1) = firP ns f (f + (k : Int)) ++ (if lp ns (f.toNat + k) < f then [f + (k : Int)] else []) := by
  unfold firP
  rw [show (f + (k : Int) + 1 - f).toNat = k + 1 from by omega, show (f + (k : Int) - f).toNat = k from by omega, List.range_succ, List.filter_append, List.map_append]
  congr 1
  by_cases h : lp ns (f.toNat + k) < f
  · rw [if_pos h, List.filter_cons, if_pos (decide_eq_true h)]; rfl
  · rw [if_neg h, List.filter_cons, if_neg (by rw [decide_eq_false h]; exact Bool.false_ne_true)]; rfl
theorem firP_0 {ns : List Int} {f : Int} : firP ns f f = [] := by
  unfold firP
  rw [show (f - f).toNat = 0 from by omega]; rfl
/-- the numbers at the first places are the window's, each once -/
theorem firs_nums {ns : List Int} {f b : Int} (h0 : 0 ≤ f) (h1 : f ≤ b) (h2 : b ≤ ns.length) :
    ((firP ns f b).map fun p => ns.getD p.toNat 0).Nodup ∧ ∀ x, x ∈ (firP ns f b).map (fun p => ns.getD p.toNat 0) ↔ x ∈ (ns.drop f.toNat).take (b.toNat - f.toNat) := by
  have k : ∀ k : Nat, f + (k : Int) ≤ ns.length → ((firP ns f (f + k)).map fun p => ns.getD p.toNat 0).Nodup ∧ ∀ x, x ∈ (firP ns f (f + k)).map (fun p => ns.getD p.toNat 0) ↔ x ∈ (ns.drop f.toNat).take k := by
    intro k
    induction k with
    | zero =>
      intro _
      rw [show f + ((0 : Nat) : Int) = f from by omega, firP_0]
      exact ⟨List.nodup_nil, fun x => by simp⟩
    | succ k ih =>
      intro hk
      obtain ⟨i1, i2⟩ := ih (by omega)
      have hl := last_in (ns := ns) (f := f.toNat) (k := k) (by omega)
      have e1 : lastAt ns (f.toNat + k) (ns.getD (f.toNat + k) 0) = lp ns (f.toNat + k) := rfl
      rw [e1, show ((f.toNat : Nat) : Int) = f from by omega] at hl
      have e2 : (ns.drop f.toNat).take (k + 1) = (ns.drop f.toNat).take k ++ [ns.getD (f.toNat + k) 0] := by
        rw [List.take_add_one, List.getElem?_drop, get_of (by omega)]; rfl
      have e3 : f + ((k + 1 : Nat) : Int) = f + (k : Int) + 1 := by omega
      rw [e3, firP_s h0, e2, List.map_append]
      by_cases h : lp ns (f.toNat + k) < f
      · have hn : ns.getD (f.toNat + k) 0 ∉ (ns.drop f.toNat).take k := fun z => hl.mp z h
        rw [if_pos h]
        have e4 : [f + (k : Int)].map (fun p => ns.getD p.toNat 0) = [ns.getD (f.toNat + k) 0] := by
          show [ns.getD (f + (k : Int)).toNat 0] = _
          rw [show (f + (k : Int)).toNat = f.toNat + k from by omega]
        rw [e4]
        refine ⟨?_, fun x => by rw [List.mem_append, List.mem_append, i2]⟩
        rw [List.nodup_append]
        refine ⟨i1, List.nodup_cons.mpr ⟨List.not_mem_nil, List.nodup_nil⟩, fun x hx y hy z => ?_⟩
        rw [List.mem_singleton.mp hy] at z
        rw [z, i2] at hx
        exact hn hx
      · have hn := hl.mpr h
        rw [if_neg h]
        refine ⟨by simpa using i1, fun x => ?_⟩
        rw [List.map_nil, List.append_nil, i2, List.mem_append, List.mem_singleton]
        exact ⟨Or.inl, fun z => z.elim id fun z => z ▸ hn⟩
  have := k (b - f).toNat (by omega)
  rwa [show f + ((b - f).toNat : Int) = b from by omega, show (b - f).toNat = b.toNat - f.toNat from by omega] at this
theorem ulen_nodup {ms : List Int} (nd : ms.Nodup) : ulen ms = ms.length := (ulen_is nd fun _ => Iff.rfl).symm
/-- sorted, by ≤ and by < -/
theorem srt_eq {xs ys ms : List Int} (h1 : xs.Perm ms) (h2 : xs.Pairwise (· ≤ ·)) (nd : ms.Nodup) (h3 : ys.Pairwise (· < ·)) (h : ∀ x, x ∈ ys ↔ x ∈ ms) : xs = ys := by
  have p : xs.Perm ys := (List.perm_ext_iff_of_nodup (h1.nodup_iff.mpr nd) (h3.imp fun h => Int.ne_of_lt h)).mpr fun x => (h1.mem_iff).trans (h x).symm
  refine p.eq_of_pairwise (le := (· ≤ ·)) (fun a b _ _ h1 h2 => Int.le_antisymm h1 h2) h2 (h3.imp fun h => Int.le_of_lt h)
/-- the last places of the window, by the row from behind -/
theorem firP_back {ns : List Int} {f b : Int} (h0 : 0 ≤ f) (h1 : f ≤ b) (h2 : b ≤ ns.length) :
    ((firP ns.reverse ((ns.length : Int) - b) ((ns.length : Int) - f)).map fun x => (ns.length : Int) - 1 - x).reverse =
      ((List.range (b - f).toNat).filter fun (k : Nat) => !decide (ns.getD (f + (k : Int)).toNat 0 ∈ (ns.drop (f + (k : Int) + 1).toNat).take (b.toNat - (f + (k : Int) + 1).toNat))).map fun (k : Nat) => f + (k : Int) := by
  have hr : ns.reverse.length = ns.length := List.length_reverse
  unfold firP
  rw [show ((ns.length : Int) - f - ((ns.length : Int) - b)) = b - f from by omega, List.map_map, ← List.map_reverse, ← List.filter_reverse]
  have e0 : (List.range (b - f).toNat).reverse = (List.range (b - f).toNat).map fun i => (b - f).toNat - 1 - i := by
    refine List.ext_getElem (by simp) fun i h1 h2 => ?_
    simp
  rw [e0, List.filter_map, List.map_map]
  have e1 : (List.range (b - f).toNat).filter ((fun k => decide (lp ns.reverse (((ns.length : Int) - b).toNat + k) < (ns.length : Int) - b)) ∘ fun i => (b - f).toNat - 1 - i) =
      (List.range (b - f).toNat).filter fun (k : Nat) => !decide (ns.getD (f + (k : Int)).toNat 0 ∈ (ns.drop (f + (k : Int) + 1).toNat).take (b.toNat - (f + (k : Int) + 1).toNat)) := by
    refine List.filter_congr fun i hi => ?_
    rw [List.mem_range] at hi
    show decide (lp ns.reverse (((ns.length : Int) - b).toNat + ((b - f).toNat - 1 - i)) < (ns.length : Int) - b) = _
    have hl := last_in (ns := ns.reverse) (f := ((ns.length : Int) - b).toNat) (k := (b - f).toNat - 1 - i) (by omega)
    have e2 : ns.reverse.getD (((ns.length : Int) - b).toNat + ((b - f).toNat - 1 - i)) 0 = ns.getD (f + (i : Int)).toNat 0 := by
      rw [List.getD_eq_getElem?_getD, List.getElem?_reverse (by omega), List.getD_eq_getElem?_getD, show ns.length - 1 - (((ns.length : Int) - b).toNat + ((b - f).toNat - 1 - i)) = (f + (i : Int)).toNat from by omega]
    have e3 : (ns.reverse.drop ((ns.length : Int) - b).toNat).take ((b - f).toNat - 1 - i) = ((ns.drop (f + (i : Int) + 1).toNat).take (b.toNat - (f + (i : Int) + 1).toNat)).reverse := by
      rw [List.drop_reverse, List.take_reverse]
      congr 1
      rw [List.length_take, show ns.length - ((ns.length : Int) - b).toNat = b.toNat from by omega, Nat.min_eq_left (by omega), show b.toNat - ((b - f).toNat - 1 - i) = (f + (i : Int) + 1).toNat from by omega, List.drop_take]
    have e4 : lastAt ns.reverse (((ns.length : Int) - b).toNat + ((b - f).toNat - 1 - i)) (ns.reverse.getD (((ns.length : Int) - b).toNat + ((b - f).toNat - 1 - i)) 0) = lp ns.reverse (((ns.length : Int) - b).toNat + ((b - f).toNat - 1 - i)) := rfl
    rw [e4, e2, e3, List.mem_reverse, show ((((ns.length : Int) - b).toNat : Nat) : Int) = (ns.length : Int) - b from by omega] at hl
    by_cases h : ns.getD (f + (i : Int)).toNat 0 ∈ (ns.drop (f + (i : Int) + 1).toNat).take (b.toNat - (f + (i : Int) + 1).toNat)
    · rw [decide_eq_true h, decide_eq_false (hl.mp h)]; rfl
    · rw [decide_eq_false h, decide_eq_true (Decidable.of_not_not fun z => h (hl.mpr z))]; rfl
  rw [e1]
  refine List.map_congr_left fun i hi => ?_
  have hi2 := List.mem_range.mp (List.mem_filter.mp hi).1
  show (ns.length : Int) - 1 - ((ns.length : Int) - b + (((b - f).toNat - 1 - i : Nat) : Int)) = f + (i : Int)
  omega
theorem firP_more {ns : List Int} {f b x : Int} : ¬ (firP ns f b ++ [x] = firP ns f b) := fun h => by
  have := congrArg List.length h
  rw [List.length_append] at this
  have h1 : [x].length = 1 := rfl
  omega
theorem dec_comm {xs ys : List Int} : decide (xs = ys) = decide (ys = xs) := decide_eq_decide.mpr ⟨Eq.symm, Eq.symm⟩
end Ur

namespace Ur
open PySem L2
/-! ### live rows -/
def livF (pn pc : Addr) (mv : V) : List (Str × V) := putF "made" mv (putF "changes" (.ref pc) (putF "numbers" (.ref pn) []))
theorem liv_numbers {pn pc : Addr} {mv : V} : (livF pn pc mv).lookup ("numbers" : Str) = some (.ref pn) := by
  unfold livF
  rw [lookup_putF, if_neg (by decide), lookup_putF, if_neg (by decide), lookup_putF, if_pos rfl]
theorem liv_changes {pn pc : Addr} {mv : V} : (livF pn pc mv).lookup ("changes" : Str) = some (.ref pc) := by
  unfold livF
  rw [lookup_putF, if_neg (by decide), lookup_putF, if_pos rfl]
theorem liv_made {pn pc : Addr} {mv : V} : (livF pn pc mv).lookup ("made" : Str) = some mv := by
  unfold livF
  rw [lookup_putF, if_pos rfl]
theorem liv_no {pn pc : Addr} {mv : V} {m : Str} (h1 : ¬ m = "numbers") (h2 : ¬ m = "changes") (h3 : ¬ m = "made") : (livF pn pc mv).lookup m = none := by
  unfold livF
  rw [lookup_putF, if_neg h3, lookup_putF, if_neg h2, lookup_putF, if_neg h1]
  rfl
theorem putF_eq {f : Str} {v x : V} {r : List (Str × V)} : putF f v ((f, x) :: r) = (f, v) :: r := if_pos rfl
theorem putF_ne {f g : Str} {v x : V} {r : List (Str × V)} (h : ¬ g = f) : putF f v ((g, x) :: r) = (g, x) :: putF f v r := if_neg h
theorem livF_eq (pn pc : Addr) (mv : V) : livF pn pc mv = [(("numbers" : Str), .ref pn), (("changes" : Str), .ref pc), (("made" : Str), mv)] := by
  unfold livF
  show putF "made" mv (putF "changes" (.ref pc) [(("numbers" : Str), .ref pn)]) = _
  rw [putF_ne (by decide)]
  show putF "made" mv [(("numbers" : Str), .ref pn), (("changes" : Str), .ref pc)] = _
  rw [putF_ne (by decide), putF_ne (by decide)]
  rfl
theorem liv_setN {pn pc q : Addr} {mv : V} : putF "numbers" (.ref q) (livF pn pc mv) = livF q pc mv := by
  rw [livF_eq, livF_eq, putF_eq]
theorem liv_setM {pn pc : Addr} {mv mw : V} : putF "made" mw (livF pn pc mv) = livF pn pc mw := by
  rw [livF_eq, livF_eq, putF_ne (by decide), putF_ne (by decide), putF_eq]
theorem pfL {pn pc : Addr} {mv : V} : (livF pn pc mv).length < 1000 := by rw [livF_eq]; show 3 < 1000; decide
theorem pfM {pn pc : Addr} {mv v : V} {k : Str} : (putF k v (livF pn pc mv)).length < 1000 := Nat.lt_of_le_of_lt (putF_le _ _ _) (by rw [livF_eq]; show 4 < 1000; decide)
/-- all but two places stay -/
def Fr (o pc : Addr) (H H' : Hp) : Prop := ∀ b v, b ≠ o → b ≠ pc → H b = some v → H' b = some v
theorem Fr.same {o pc : Addr} {H H' : Hp} (s : Same H H') : Fr o pc H H' := fun b v _ _ e => s b v e
theorem Fr.trans {o pc : Addr} {H H' H'' : Hp} (f : Fr o pc H H') (g : Fr o pc H' H'') : Fr o pc H H'' := fun b v h1 h2 e => g b v h1 h2 (f b v h1 h2 e)
theorem Fr.but {o pc : Addr} {H H' : Hp} (s : But o H H') : Fr o pc H H' := fun b v h _ e => s b v h e
theorem Fr.but2 {o pc : Addr} {H H' : Hp} (s : But pc H H') : Fr o pc H H' := fun b v _ h e => s b v h e
/-- a change, at t: the place, how many, what stood there -/
structure Chg (N : Addr → Prop) (H : Hp) (t : Addr) (c : Int × Int × List Int) : Prop where
  all : ∃ g : Addr, H t = some (.tup [.int c.1, .int c.2.1, .ref g]) ∧ H g = some (.lst (c.2.2.map V.int)) ∧ ∀ b, N b → t ≠ b ∧ g ≠ b
theorem Chg.fr {N : Addr → Prop} {H H' : Hp} {t : Addr} {c : Int × Int × List Int} (k : Chg N H t c) (f : ∀ b v, ¬ N b → H b = some v → H' b = some v) : Chg N H' t c := by
  obtain ⟨g, h1, h2, h3⟩ := k.all
  exact ⟨g, f _ _ (fun n => (h3 _ n).1 rfl) h1, f _ _ (fun n => (h3 _ n).2 rfl) h2, h3⟩
/-- what a live row must not touch, besides its own two places -/
def Own (L : Addr → Prop) (o pc : Addr) (b : Addr) : Prop := L b ∨ b = o ∨ b = pc
structure Liv (C CR : Addr) (L : Addr → Prop) (o pc : Addr) (H : Hp) (ns : List Int) (cs : List (Int × Int × List Int)) : Prop where
  obj : ∃ (dx pn : Addr) (mv : V), H o = some (.ins C dx (livF pn pc mv)) ∧ H pn = some (.lst (ns.map V.int)) ∧ (∀ b, Own L o pc b → pn ≠ b) ∧ (mv = .non ∨ ∃ ro, mv = .ref ro ∧ Rdy CR (Own L o pc) H ro ns)
  chs : ∃ ts : List Addr, H pc = some (.lst (ts.map V.ref)) ∧ ts.length = cs.length ∧ ∀ (k : Nat) (t : Addr) (c : Int × Int × List Int), ts[k]? = some t → cs[k]? = some c → Chg (Own L o pc) H t c
  off : ∀ b, L b → o ≠ b ∧ pc ≠ b
  live : ∀ b, L b → ∃ v, H b = some v
  ne : o ≠ pc
  len : ns.length ≤ 1000
  clen : cs.length ≤ 10000
theorem Rdy.fr {C : Addr} {L : Addr → Prop} {H H' : Hp} {o : Addr} {ns : List Int} (r : Rdy C L H o ns) (f : ∀ b v, ¬ L b → H b = some v → H' b = some v) : Rdy C L H' o ns := by
  obtain ⟨dx, la, na, e1, e2, e3, k⟩ := r.all
  exact ⟨dx, la, na, f _ _ (fun n => (k _ n).1 rfl) e1, f _ _ (fun n => (k _ n).2.1 rfl) e2, f _ _ (fun n => (k _ n).2.2 rfl) e3, k⟩
theorem Liv.same {C CR : Addr} {L : Addr → Prop} {o pc : Addr} {H H' : Hp} {ns : List Int} {cs : List (Int × Int × List Int)} (v : Liv C CR L o pc H ns cs) (s : Same H H') : Liv C CR L o pc H' ns cs := by
  obtain ⟨⟨dx, pn, mv, h1, h2, h3, h4⟩, ⟨ts, k1, k2, k3⟩, off, lv, ne, l1, l2⟩ := v
  refine ⟨⟨dx, pn, mv, s _ _ h1, s _ _ h2, h3, h4.imp id fun ⟨ro, e, r⟩ => ⟨ro, e, r.same s⟩⟩, ⟨ts, s _ _ k1, k2, fun k t c a b => (k3 k t c a b).fr fun b v _ e => s b v e⟩, off, fun b l => by obtain ⟨v, e⟩ := lv b l; exact ⟨v, s _ _ e⟩, ne, l1, l2⟩
theorem Liv.but {C CR : Addr} {L : Addr → Prop} {o pc a : Addr} {H H' : Hp} {ns : List Int} {cs : List (Int × Int × List Int)} (v : Liv C CR L o pc H ns cs) (l : L a) (s : But a H H') {va : HO} (ea : H' a = some va) : Liv C CR L o pc H' ns cs := by
  obtain ⟨⟨dx, pn, mv, h1, h2, h3, h4⟩, ⟨ts, k1, k2, k3⟩, off, lv, ne, l1, l2⟩ := v
  have f : ∀ b v, ¬ Own L o pc b → H b = some v → H' b = some v := fun b v n e => s b v (fun z => n (.inl (z ▸ l))) e
  obtain ⟨o1, o2⟩ := off a l
  exact ⟨⟨dx, pn, mv, s _ _ o1 h1, s _ _ (h3 a (.inl l)) h2, h3, h4.imp id fun ⟨ro, e, r⟩ => ⟨ro, e, r.fr f⟩⟩, ⟨ts, s _ _ o2 k1, k2, fun k t c a b => (k3 k t c a b).fr f⟩, off, fun b l => by
    by_cases z : b = a
    · exact ⟨va, z ▸ ea⟩
    · obtain ⟨v, e⟩ := lv b l; exact ⟨v, s _ _ z e⟩, ne, l1, l2⟩
/-- a row with some numbers exchanged -/
def layd (ns : List Int) (p m : Int) (gs : List Int) : List Int := ns.take p.toNat ++ gs ++ ns.drop (p + m).toNat
def gone (ns : List Int) (p m : Int) : List Int := (ns.drop p.toNat).take m.toNat
/-- .. and back -/
theorem layd_back {ns gs : List Int} {p m : Int} (h0 : 0 ≤ p) (h1 : 0 ≤ m) (h2 : p + m ≤ ns.length) : layd (layd ns p m gs) p gs.length (gone ns p m) = ns := by
  unfold layd gone
  have e1 : (ns.take p.toNat ++ gs ++ ns.drop (p + m).toNat).take p.toNat = ns.take p.toNat := by
    rw [List.append_assoc, List.take_append_of_le_length (by rw [List.length_take]; omega), List.take_take, Nat.min_self]
  have e2 : (ns.take p.toNat ++ gs ++ ns.drop (p + m).toNat).drop (p + (gs.length : Int)).toNat = ns.drop (p + m).toNat := by
    have : (ns.take p.toNat ++ gs).length = (p + (gs.length : Int)).toNat := by rw [List.length_append, List.length_take]; omega
    rw [← this, List.drop_left]
  rw [e1, e2]
  have e3 : ns.drop (p + m).toNat = (ns.drop p.toNat).drop m.toNat := by rw [List.drop_drop]; congr 1; omega
  rw [e3, List.append_assoc, List.take_append_drop, List.take_append_drop]
end Ur
namespace Ur
open PySem L2
theorem refs_inj {ts us : List Addr} (h : ts.map V.ref = us.map V.ref) : ts = us := List.map_inj_right (fun _ _ e => by injection e) |>.mp h
/-- another change is noted -/
theorem Liv.note {C CR : Addr} {L : Addr → Prop} {o pc g r t dx : Addr} {H H' : Hp} {ns gs : List Int} {cs : List (Int × Int × List Int)} {ts : List Addr} {p m : Int} (v : Liv C CR L o pc H ns cs)
    (ec : H pc = some (.lst (ts.map V.ref))) (e1 : H' g = some (.lst ((gone ns p m).map V.int))) (e2 : H' r = some (.lst ((layd ns p m gs).map V.int))) (e3 : H' o = some (.ins C dx (livF r pc .non))) (e4 : H' pc = some (.lst ((ts ++ [t]).map V.ref)))
    (e5 : H' t = some (.tup [.int p, .int gs.length, .ref g])) (ng : H g = none) (nr : H r = none) (nt : H t = none) (f : Fr o pc H H') (hl : (layd ns p m gs).length ≤ 1000) (hc : cs.length + 1 ≤ 10000) :
    Liv C CR L o pc H' (layd ns p m gs) (cs ++ [(p, (gs.length : Int), gone ns p m)]) := by
  obtain ⟨⟨dx0, pn, mv, h1, h2, h3, h4⟩, ⟨us, k1, k2, k3⟩, off, lv, ne, l1, l2⟩ := v
  have hu : us = ts := by
    rw [k1] at ec
    injection ec with ec
    injection ec with ec
    exact refs_inj ec
  subst hu
  have fre : ∀ x, H x = none → ∀ b, Own L o pc b → x ≠ b := fun x n b hb e => by
    rcases hb with hb | hb | hb
    · obtain ⟨w, ew⟩ := lv b hb
      rw [← e, n] at ew; cases ew
    · rw [e, hb, h1] at n; cases n
    · rw [e, hb, k1] at n; cases n
  have fr2 : ∀ b v, ¬ Own L o pc b → H b = some v → H' b = some v := fun b v n e => f b v (fun z => n (.inr (.inl z))) (fun z => n (.inr (.inr z))) e
  refine ⟨⟨dx, r, .non, e3, e2, fre r nr, .inl rfl⟩, ⟨us ++ [t], e4, by rw [List.length_append, List.length_append, k2]; rfl, fun k t' c' a b => ?_⟩, off, fun b l => ?_, ne, hl, by rw [List.length_append]; exact hc⟩
  · by_cases hk : k < us.length
    · rw [List.getElem?_append_left hk] at a
      rw [List.getElem?_append_left (by omega)] at b
      exact (k3 k t' c' a b).fr fr2
    · have hk2 := (List.getElem?_eq_some_iff.mp a).1
      rw [List.length_append] at hk2
      have h1' : [t].length = 1 := rfl
      have hk3 : k = us.length := by omega
      subst hk3
      rw [List.getElem?_append_right (Nat.le_refl _), Nat.sub_self] at a
      rw [List.getElem?_append_right (by omega), k2, Nat.sub_self] at b
      cases a
      cases b
      exact ⟨g, e5, e1, fun b hb => ⟨fre t nt b hb, fre g ng b hb⟩⟩
  · obtain ⟨w, ew⟩ := lv b l
    obtain ⟨o1, o2⟩ := off b l
    exact ⟨w, f _ _ (Ne.symm o1) (Ne.symm o2) ew⟩
/-- the last change taken back -/
theorem Liv.unnote {C CR : Addr} {L : Addr → Prop} {o pc r dx t : Addr} {H H' : Hp} {ns : List Int} {cs : List (Int × Int × List Int)} {c : Int × Int × List Int} {ts : List Addr} (v : Liv C CR L o pc H ns (cs ++ [c]))
    (ec : H pc = some (.lst ((ts ++ [t]).map V.ref))) (e2 : H' r = some (.lst ((layd ns c.1 c.2.1 c.2.2).map V.int))) (e3 : H' o = some (.ins C dx (livF r pc .non))) (e4 : H' pc = some (.lst (ts.map V.ref)))
    (nr : H r = none) (f : Fr o pc H H') (hl : (layd ns c.1 c.2.1 c.2.2).length ≤ 1000) : Liv C CR L o pc H' (layd ns c.1 c.2.1 c.2.2) cs := by
  obtain ⟨⟨dx0, pn, mv, h1, h2, h3, h4⟩, ⟨us, k1, k2, k3⟩, off, lv, ne, l1, l2⟩ := v
  have hu : us = ts ++ [t] := by
    rw [k1] at ec
    injection ec with ec
    injection ec with ec
    exact refs_inj ec
  subst hu
  rw [List.length_append, List.length_append] at k2
  have k2' : ts.length + 1 = cs.length + 1 := k2
  rw [List.length_append] at l2
  have l2' : cs.length + 1 ≤ 10000 := l2
  have fre : ∀ x, H x = none → ∀ b, Own L o pc b → x ≠ b := fun x n b hb e => by
    rcases hb with hb | hb | hb
    · obtain ⟨w, ew⟩ := lv b hb
      rw [← e, n] at ew; cases ew
    · rw [e, hb, h1] at n; cases n
    · rw [e, hb, k1] at n; cases n
  have fr2 : ∀ b v, ¬ Own L o pc b → H b = some v → H' b = some v := fun b v n e => f b v (fun z => n (.inr (.inl z))) (fun z => n (.inr (.inr z))) e
  refine ⟨⟨dx, r, .non, e3, e2, fre r nr, .inl rfl⟩, ⟨ts, e4, by omega, fun k t' c' a b => ?_⟩, off, fun b l => ?_, ne, hl, by omega⟩
  · have hk := (List.getElem?_eq_some_iff.mp a).1
    exact (k3 k t' c' (by rw [List.getElem?_append_left hk]; exact a) (by rw [List.getElem?_append_left (by omega)]; exact b)).fr fr2
  · obtain ⟨w, ew⟩ := lv b l
    obtain ⟨o1, o2⟩ := off b l
    exact ⟨w, f _ _ (Ne.symm o1) (Ne.symm o2) ew⟩
theorem layd_len {ns gs : List Int} {p m : Int} (h0 : 0 ≤ p) (h1 : 0 ≤ m) (h2 : p + m ≤ ns.length) : ((layd ns p m gs).length : Int) = ns.length - m + gs.length := by
  unfold layd
  rw [List.length_append, List.length_append, List.length_take, List.length_drop]
  omega
end Ur
namespace Ur
open PySem L2
theorem Rdy.add {C : Addr} {L : Addr → Prop} {H : Hp} {o x : Addr} {ns : List Int} (r : Rdy C L H o ns) (n : H x = none) : Rdy C (fun b => L b ∨ b = x) H o ns := by
  obtain ⟨dx, la, na, e1, e2, e3, k⟩ := r.all
  refine ⟨dx, la, na, e1, e2, e3, fun b hb => ?_⟩
  rcases hb with hb | hb
  · exact k b hb
  · rw [hb]
    exact ⟨fun e => by rw [e, n] at e1; (cases e1), fun e => by rw [e, n] at e2; (cases e2), fun e => by rw [e, n] at e3; (cases e3)⟩
/-- a place made since is barred, too -/
theorem Liv.add {C CR : Addr} {L : Addr → Prop} {o pc x : Addr} {H H' : Hp} {ns : List Int} {cs : List (Int × Int × List Int)} {w : HO} (v : Liv C CR L o pc H ns cs) (n : H x = none) (s : Same H H') (e : H' x = some w) : Liv C CR (fun b => L b ∨ b = x) o pc H' ns cs := by
  obtain ⟨⟨dx, pn, mv, h1, h2, h3, h4⟩, ⟨ts, k1, k2, k3⟩, off, lv, ne, l1, l2⟩ := v
  have nx : ∀ {y : Addr} {w : HO}, H y = some w → y ≠ x := fun h z => by rw [z, n] at h; cases h
  have own : ∀ {b : Addr}, Own (fun b => L b ∨ b = x) o pc b → Own L o pc b ∨ b = x := fun h => by
    rcases h with (h | h) | h
    · exact .inl (.inl h)
    · exact .inr h
    · exact .inl (.inr h)
  have h4' : mv = .non ∨ ∃ ro, mv = .ref ro ∧ Rdy CR (Own (fun b => L b ∨ b = x) o pc) H' ro ns := by
    rcases h4 with h | ⟨ro, e1, r⟩
    · exact .inl h
    · exact .inr ⟨ro, e1, ((r.add n).same s).sub fun b hb => own hb⟩
  refine ⟨⟨dx, pn, mv, s _ _ h1, s _ _ h2, fun b hb => ?_, h4'⟩, ⟨ts, s _ _ k1, k2, fun k t c a b => ?_⟩, fun b hb => ?_, fun b hb => ?_, ne, l1, l2⟩
  · rcases own hb with h | h
    · exact h3 b h
    · rw [h]; exact nx h2
  · obtain ⟨g, m1, m2, m3⟩ := (k3 k t c a b).all
    refine ⟨g, s _ _ m1, s _ _ m2, fun b hb => ?_⟩
    rcases own hb with h | h
    · exact m3 b h
    · rw [h]; exact ⟨nx m1, nx m2⟩
  · rcases hb with h | h
    · exact off b h
    · rw [h]; exact ⟨nx h1, nx k1⟩
  · rcases hb with h | h
    · obtain ⟨w', e'⟩ := lv b h
      exact ⟨w', s _ _ e'⟩
    · rw [h]; exact ⟨w, e⟩
theorem Liv.sub {C CR : Addr} {L L' : Addr → Prop} {o pc : Addr} {H : Hp} {ns : List Int} {cs : List (Int × Int × List Int)} (v : Liv C CR L o pc H ns cs) (l : ∀ b, L' b → L b) : Liv C CR L' o pc H ns cs := by
  obtain ⟨⟨dx, pn, mv, h1, h2, h3, h4⟩, ⟨ts, k1, k2, k3⟩, off, lv, ne, l1, l2⟩ := v
  have own : ∀ {b : Addr}, Own L' o pc b → Own L o pc b := fun h => h.imp (l _) id
  refine ⟨⟨dx, pn, mv, h1, h2, fun b hb => h3 b (own hb), h4.imp id fun ⟨ro, e1, r⟩ => ⟨ro, e1, r.sub fun b hb => own hb⟩⟩, ⟨ts, k1, k2, fun k t c a b => ?_⟩, fun b hb => off b (l b hb), fun b hb => lv b (l b hb), ne, l1, l2⟩
  obtain ⟨g, m1, m2, m3⟩ := (k3 k t c a b).all
  exact ⟨g, m1, m2, fun b hb => m3 b (own hb)⟩
end Ur
namespace Ur
open PySem L2
theorem livF_inj {pn pc pn' pc' : Addr} {mv mv' : V} (h : livF pn pc mv = livF pn' pc' mv') : pn = pn' ∧ pc = pc' ∧ mv = mv' := by
  rw [livF_eq, livF_eq] at h
  injection h with h1 h2
  injection h2 with h2 h3
  injection h3 with h3 _
  injection h1 with _ h1
  injection h2 with _ h2
  injection h3 with _ h3
  injection h1 with h1
  injection h2 with h2
  exact ⟨h1, h2, h3⟩
/-- .. and made ready -/
theorem Liv.ready {C CR : Addr} {L : Addr → Prop} {o pc x dx pn : Addr} {mv : V} {H H1 : Hp} {ns : List Int} {cs : List (Int × Int × List Int)} (v : Liv C CR L o pc H ns cs) (eo : H o = some (.ins C dx (livF pn pc mv))) (s : Same H H1) (r : Rdy CR (fun b => H b ≠ none) H1 x ns) :
    Rdy CR (Own L o pc) (upd H1 o (.ins C dx (livF pn pc (.ref x)))) x ns ∧ Liv C CR L o pc (upd H1 o (.ins C dx (livF pn pc (.ref x)))) ns cs ∧ Fr o pc H (upd H1 o (.ins C dx (livF pn pc (.ref x)))) := by
  have v1 := v.same s
  obtain ⟨⟨dx0, pn0, mv0, h1, h2, h3, h4⟩, ⟨us, k1, k2, k3⟩, off, lv, ne, l1, l2⟩ := v
  obtain ⟨_, ⟨us1, m1, m2, m3⟩, _, lv1, _, _, _⟩ := v1
  rw [eo] at h1
  injection h1 with h1
  injection h1 with _ _ h1
  obtain ⟨rfl, _, rfl⟩ := livF_inj h1
  have hb : But o H1 (upd H1 o (.ins C dx (livF pn pc (.ref x)))) := but_at but_refl
  have ho : H o ≠ none := by rw [eo]; exact fun k => nomatch k
  have r2 : Rdy CR (Own L o pc) (upd H1 o (.ins C dx (livF pn pc (.ref x)))) x ns := (r.but ho hb).sub fun b hb => by
    rcases hb with h | h | h
    · obtain ⟨w, e⟩ := lv b h; rw [e]; exact fun k => nomatch k
    · rw [h]; exact ho
    · rw [h, k1]; exact fun k => nomatch k
  refine ⟨r2, ⟨⟨dx, pn, .ref x, upd_same, hb _ _ (h3 o (.inr (.inl rfl))) (s _ _ h2), h3, .inr ⟨x, rfl, r2⟩⟩, ⟨us1, hb _ _ (Ne.symm ne) m1, m2, fun k t c a b => (m3 k t c a b).fr fun b v n e => hb b v (fun z => n (.inr (.inl z))) e⟩, off, fun b l => ?_, ne, l1, l2⟩, (Fr.same s).trans (Fr.but hb)⟩
  obtain ⟨w, e⟩ := lv1 b l
  exact ⟨w, hb _ _ (Ne.symm (off b l).1) e⟩
end Ur
namespace Ur
open PySem L2
/-! the changes as data -/
def chgD (c : Int × Int × List Int) : PyData := .tuple [.int c.1, .int c.2.1, .list (c.2.2.map .int)]
theorem lay_chgD (c : Int × Int × List Int) : PyData.canLay0 (chgD c) = true := by
  show PyData.canLay0 (.tuple [.int c.1, .int c.2.1, .list (c.2.2.map .int)]) = true
  refine canLayAll_of _ fun d hd => ?_
  simp only [List.mem_cons, List.not_mem_nil, or_false] at hd
  rcases hd with rfl | rfl | rfl
  · rfl
  · rfl
  · exact canLayAll_ints _
theorem depth_chgD (c : Int × Int × List Int) : PyData.depth (chgD c) ≤ 4 := by
  have h := depthAll_of (m := 3) [.int c.1, .int c.2.1, .list (c.2.2.map .int)] fun d hd => by
    simp only [List.mem_cons, List.not_mem_nil, or_false] at hd
    rcases hd with rfl | rfl | rfl
    · show PyData.depth (.int _) ≤ 3
      rw [PyData.depth]; omega
    · show PyData.depth (.int _) ≤ 3
      rw [PyData.depth]; omega
    · exact Nat.le_trans (depth_ints _) (by decide)
  show PyData.depth (.tuple _) ≤ 4
  rw [PyData.depth]
  omega
theorem shaped_chgs (cs : List (Int × Int × List Int)) : SeqAt.shaped (.list (cs.map chgD)) = true := by
  refine shaped_of (canLayAll_of _ fun d h => ?_) ?_
  · obtain ⟨c, _, rfl⟩ := List.mem_map.mp h
    exact lay_chgD c
  · have h := depthAll_of (m := 4) (cs.map chgD) fun d h => by
      obtain ⟨c, _, rfl⟩ := List.mem_map.mp h
      exact depth_chgD c
    rw [PyData.depth]
    omega
theorem Liv.dp {K : PySem.W.Frag} {C CR : Addr} {L : Addr → Prop} {o pc : Addr} {H : Hp} {ns : List Int} {cs : List (Int × Int × List Int)} (v : Liv C CR L o pc H ns cs) : Dp K H (.ref pc) (.list (cs.map chgD)) := by
  obtain ⟨ts, k1, k2, k3⟩ := v.chs
  refine .lst (SqL.of k1) (dpAll_of _ _ (by rw [List.length_map, List.length_map, k2]) fun k w d h1 h2 => ?_)
  rw [List.getElem?_map] at h1 h2
  obtain ⟨t, ht, rfl⟩ := Option.map_eq_some_iff.mp h1
  obtain ⟨c, hc, rfl⟩ := Option.map_eq_some_iff.mp h2
  obtain ⟨g, e1, e2, _⟩ := (k3 k t c ht hc).all
  exact .tup (SqT.of e1) (.cons (.int _) (.cons (.int _) (.cons (dp_ints (SqL.of e2)) .nil)))
theorem Liv.noChanges {K : PySem.W.Frag} {C CR : Addr} {L : Addr → Prop} {o pc b : Addr} {H : Hp} {ns : List Int} {cs : List (Int × Int × List Int)} {Q : VK} (v : Liv C CR L o pc H ns cs) (hb : SqL K H b []) (q : Q (.bl (decide (cs = []))) H) : rEqD K (.ref pc) (.ref b) H Q :=
  ⟨_, _, v.dp, .lst hb .nil, shaped_chgs cs, by decide, by
    have e : PyData.eqv (.list (cs.map chgD)) (.list []) = decide (cs = []) := by
      cases cs with
      | nil => rfl
      | cons p ps => rfl
    rw [e]; exact q⟩
end Ur
namespace Ur
open PySem L2
/-- what undo tells -/
structure UndoQ (C CR : Addr) (L : Addr → Prop) (o pc : Addr) (H : Hp) (ns : List Int) (cs : List (Int × Int × List Int)) (Q : VK) : Prop where
  no : cs = [] → ∀ H', Liv C CR L o pc H' ns cs → Fr o pc H H' → Q (.bl false) H'
  yes : ∀ (ds : List (Int × Int × List Int)) (c : Int × Int × List Int), cs = ds ++ [c] → (0 ≤ c.1 ∧ 0 ≤ c.2.1 ∧ c.1 + c.2.1 ≤ (ns.length : Int) ∧ (layd ns c.1 c.2.1 c.2.2).length ≤ 1000 ∧ c.2.2.length ≤ 2000) ∧ ∀ H', Liv C CR L o pc H' (layd ns c.1 c.2.1 c.2.2) ds → Fr o pc H H' → Q (.bl true) H'
end Ur

namespace Ur
open PySem L2
/-! ### what is done on a live row, and on rows here -/
structure Rws (N : Addr → Prop) (H : Hp) (ks : List Addr) (hs : List (List Int)) : Prop where
  len : ks.length = hs.length
  row : ∀ (i : Nat) (k : Addr), ks[i]? = some k → ∃ h : List Int, hs[i]? = some h ∧ H k = some (.lst (h.map V.int)) ∧ ∀ b, N b → k ≠ b
theorem Rws.fr {N : Addr → Prop} {H H' : Hp} {ks : List Addr} {hs : List (List Int)} (r : Rws N H ks hs) (f : ∀ b v, ¬ N b → H b = some v → H' b = some v) : Rws N H' ks hs :=
  ⟨r.len, fun i k e => by obtain ⟨h, h1, h2, h3⟩ := r.row i k e; exact ⟨h, h1, f _ _ (fun n => h3 _ n rfl) h2, h3⟩⟩
theorem Rws.nil {N : Addr → Prop} {H : Hp} : Rws N H [] [] := ⟨rfl, fun i k h => nomatch h⟩
theorem get_snoc {α : Type} {ks : List α} {k x : α} {i : Nat} (h : (ks ++ [k])[i]? = some x) : (i < ks.length ∧ ks[i]? = some x) ∨ (i = ks.length ∧ x = k) := by
  by_cases hk : i < ks.length
  · rw [List.getElem?_append_left hk] at h
    exact .inl ⟨hk, h⟩
  · have h2 := (List.getElem?_eq_some_iff.mp h).1
    rw [List.length_append] at h2
    have h3 : [k].length = 1 := rfl
    have hk2 : i = ks.length := by omega
    subst hk2
    rw [List.getElem?_append_right (Nat.le_refl _), Nat.sub_self] at h
    cases h
    exact .inr ⟨rfl, rfl⟩
theorem get_at {α : Type} (ks : List α) (k : α) : (ks ++ [k])[ks.length]? = some k := by
  rw [List.getElem?_append_right (Nat.le_refl _), Nat.sub_self]; rfl
theorem Rws.snoc {N : Addr → Prop} {H : Hp} {ks : List Addr} {hs : List (List Int)} {k : Addr} {h : List Int} (r : Rws N H ks hs) (e : H k = some (.lst (h.map V.int))) (n : ∀ b, N b → k ≠ b) : Rws N H (ks ++ [k]) (hs ++ [h]) := by
  refine ⟨by rw [List.length_append, List.length_append, r.len]; rfl, fun i x hx => ?_⟩
  rcases get_snoc hx with ⟨h1, h2⟩ | ⟨rfl, rfl⟩
  · obtain ⟨m, h3, h4, h5⟩ := r.row i x h2
    exact ⟨m, by rw [List.getElem?_append_left (by have := r.len; omega)]; exact h3, h4, h5⟩
  · exact ⟨h, by rw [r.len]; exact get_at hs h, e, n⟩
theorem Rws.init {N : Addr → Prop} {H : Hp} {ks : List Addr} {hs : List (List Int)} {k : Addr} {h : List Int} (r : Rws N H (ks ++ [k]) (hs ++ [h])) : Rws N H ks hs ∧ H k = some (.lst (h.map V.int)) ∧ ∀ b, N b → k ≠ b := by
  have hl := r.len
  rw [List.length_append, List.length_append] at hl
  have hl2 : ks.length + 1 = hs.length + 1 := hl
  refine ⟨⟨by omega, fun i x hx => ?_⟩, ?_⟩
  · have hi := (List.getElem?_eq_some_iff.mp hx).1
    obtain ⟨m, h3, h4, h5⟩ := r.row i x (by rw [List.getElem?_append_left hi]; exact hx)
    rw [List.getElem?_append_left (by omega)] at h3
    exact ⟨m, h3, h4, h5⟩
  · obtain ⟨m, h3, h4, h5⟩ := r.row ks.length k (get_at ks k)
    rw [show ks.length = hs.length by omega, get_at hs h] at h3
    cases h3
    exact ⟨h4, h5⟩
def rwsD (hs : List (List Int)) : List PyData := hs.map fun h => PyData.list (h.map PyData.int)
theorem Rws.dp {K : PySem.W.Frag} {N : Addr → Prop} {H : Hp} {a : Addr} {ks : List Addr} {hs : List (List Int)} (r : Rws N H ks hs) (h : SqL K H a (ks.map V.ref)) : Dp K H (.ref a) (.list (rwsD hs)) := by
  refine .lst h (dpAll_of _ _ (by rw [rwsD, List.length_map, List.length_map, r.len]) fun k v d h1 h2 => ?_)
  rw [List.getElem?_map] at h1
  rw [rwsD, List.getElem?_map] at h2
  obtain ⟨p, hp, rfl⟩ := Option.map_eq_some_iff.mp h1
  obtain ⟨m, h3, h4, _⟩ := r.row k p hp
  rw [h3] at h2
  cases h2
  exact dp_ints (SqL.of h4)
theorem shaped_rws (hs : List (List Int)) : SeqAt.shaped (.list (rwsD hs)) = true := by
  refine shaped_of (canLayAll_of _ fun d h => ?_) ?_
  · obtain ⟨k, _, rfl⟩ := List.mem_map.mp h
    exact canLayAll_ints _
  · have h := depthAll_of (m := 2) (rwsD hs) fun d h => by
      obtain ⟨k, _, rfl⟩ := List.mem_map.mp h
      exact depth_ints _
    rw [PyData.depth]
    omega
theorem rNe_rwsN {K : PySem.W.Frag} {N : Addr → Prop} {H : Hp} {a b : Addr} {ks : List Addr} {hs : List (List Int)} {Q : VK} (r : Rws N H ks hs) (h1 : SqL K H a (ks.map V.ref)) (h2 : SqL K H b []) (q : Q (.bl (!decide (hs = []))) H) : rNeD K (.ref a) (.ref b) H Q :=
  ⟨_, _, r.dp h1, .lst h2 .nil, shaped_rws hs, by decide, by
    have e : PyData.eqv (.list (rwsD hs)) (.list []) = decide (hs = []) := by
      cases hs with
      | nil => rfl
      | cons p ps => rfl
    rw [e]; exact q⟩
/-- how far a live row's changes lead back: the rows of ahead -/
inductive Back : List Int → List (Int × Int × List Int) → List (List Int) → Prop
  | nil {ns : List Int} : Back ns [] []
  | snoc {ns m : List Int} {cs : List (Int × Int × List Int)} {hs : List (List Int)} {c : Int × Int × List Int} : Back m cs hs → layd ns c.1 c.2.1 c.2.2 = m → 0 ≤ c.1 → 0 ≤ c.2.1 → c.1 + c.2.1 ≤ (ns.length : Int) → c.2.2.length ≤ 2000 → m.length ≤ 400 → Back ns (cs ++ [c]) (hs ++ [m])
theorem Back.len {ns : List Int} {cs : List (Int × Int × List Int)} {hs : List (List Int)} (b : Back ns cs hs) : cs.length = hs.length := by
  induction b with
  | nil => rfl
  | snoc _ _ _ _ _ _ _ ih => rw [List.length_append, List.length_append, ih]; rfl
theorem Back.last {ns : List Int} {cs : List (Int × Int × List Int)} {hs : List (List Int)} (b : Back ns cs hs) : (cs = [] ∧ hs = []) ∨ ∃ c m cs' hs', cs = cs' ++ [c] ∧ hs = hs' ++ [m] ∧ Back m cs' hs' ∧ layd ns c.1 c.2.1 c.2.2 = m ∧ (0 ≤ c.1 ∧ 0 ≤ c.2.1 ∧ c.1 + c.2.1 ≤ (ns.length : Int) ∧ (layd ns c.1 c.2.1 c.2.2).length ≤ 1000 ∧ c.2.2.length ≤ 2000) ∧ m.length ≤ 400 := by
  cases b with
  | nil => exact .inl ⟨rfl, rfl⟩
  | snoc b e h0 h1 h2 h3 h4 => exact .inr ⟨_, _, _, _, rfl, rfl, b, e, ⟨h0, h1, h2, by rw [e]; omega, h3⟩, h4⟩
theorem Back.note {ns gs : List Int} {cs : List (Int × Int × List Int)} {hs : List (List Int)} {p m : Int} (b : Back ns cs hs) (h0 : 0 ≤ p) (h1 : 0 ≤ m) (h2 : p + m ≤ ns.length) (hl : ns.length ≤ 400) : Back (layd ns p m gs) (cs ++ [(p, (gs.length : Int), gone ns p m)]) (hs ++ [ns]) := by
  have e := layd_len (ns := ns) (gs := gs) (p := p) (m := m) h0 h1 h2
  refine .snoc b (layd_back h0 h1 h2) h0 (Int.natCast_nonneg _) ?_ ?_ hl
  · show p + (gs.length : Int) ≤ _
    omega
  · show (gone ns p m).length ≤ 2000
    unfold gone
    rw [List.length_take, List.length_drop]
    omega
/-- the places at which something is done -/
def Dbr (a st pl o pc : Addr) (b : Addr) : Prop := b = a ∨ b = st ∨ b = pl ∨ b = o ∨ b = pc
structure Dst (C CR : Addr) (L : Addr → Prop) (a o st pl pc : Addr) (H : Hp) (ns : List Int) (cs : List (Int × Int × List Int)) : Prop where
  draws : ∃ ds : List Int, H a = some (.lst (ds.map V.int))
  liv : Liv C CR L o pc H ns cs
  la : L a
  ls : L st
  lp : L pl
  nas : a ≠ st
  nap : a ≠ pl
  nsp : st ≠ pl
  row : ∃ (r : Addr) (ks : List Addr) (hs : List (List Int)), H st = some (.lst [.ref r, .ref pl]) ∧ H r = some (.lst (ns.map V.int)) ∧ (∀ b, Own L o pc b → r ≠ b) ∧ H pl = some (.lst (ks.map V.ref)) ∧ Rws (Own L o pc) H ks hs ∧ Back ns cs hs
  len : ns.length ≤ 400
theorem Dst.own {C CR : Addr} {L : Addr → Prop} {a o st pl pc b : Addr} {H : Hp} {ns : List Int} {cs : List (Int × Int × List Int)} (d : Dst C CR L a o st pl pc H ns cs) (h : Dbr a st pl o pc b) : Own L o pc b := by
  rcases h with h | h | h | h | h
  · exact .inl (h ▸ d.la)
  · exact .inl (h ▸ d.ls)
  · exact .inl (h ▸ d.lp)
  · exact .inr (.inl h)
  · exact .inr (.inr h)
theorem own_of {L : Addr → Prop} {a o st pl pc : Addr} (la : L a) (ls : L st) (lp : L pl) {b : Addr} (h : Dbr a st pl o pc b) : Own L o pc b := by
  rcases h with h | h | h | h | h
  · exact .inl (h ▸ la)
  · exact .inl (h ▸ ls)
  · exact .inl (h ▸ lp)
  · exact .inr (.inl h)
  · exact .inr (.inr h)
/-- .. all else stays -/
def Dfr (a st pl o pc : Addr) (H H' : Hp) : Prop := ∀ b v, ¬ Dbr a st pl o pc b → H b = some v → H' b = some v
theorem Dfr.trans {a st pl o pc : Addr} {H H' H'' : Hp} (f : Dfr a st pl o pc H H') (g : Dfr a st pl o pc H' H'') : Dfr a st pl o pc H H'' := fun b v n e => g b v n (f b v n e)
theorem Dfr.same {a st pl o pc : Addr} {H H' : Hp} (s : Same H H') : Dfr a st pl o pc H H' := fun b v _ e => s b v e
theorem Dfr.fr {a st pl o pc : Addr} {H H' : Hp} (f : Fr o pc H H') : Dfr a st pl o pc H H' := fun b v n e => f b v (fun z => n (.inr (.inr (.inr (.inl z))))) (fun z => n (.inr (.inr (.inr (.inr z))))) e
theorem Dfr.a {a st pl o pc : Addr} {H H' : Hp} (f : But a H H') : Dfr a st pl o pc H H' := fun b v n e => f b v (fun z => n (.inl z)) e
theorem Dfr.st {a st pl o pc : Addr} {H H' : Hp} (f : But st H H') : Dfr a st pl o pc H H' := fun b v n e => f b v (fun z => n (.inr (.inl z))) e
theorem Dfr.pl {a st pl o pc : Addr} {H H' : Hp} (f : But pl H H') : Dfr a st pl o pc H H' := fun b v n e => f b v (fun z => n (.inr (.inr (.inl z)))) e
theorem Dst.same {C CR : Addr} {L : Addr → Prop} {a o st pl pc : Addr} {H H' : Hp} {ns : List Int} {cs : List (Int × Int × List Int)} (d : Dst C CR L a o st pl pc H ns cs) (s : Same H H') : Dst C CR L a o st pl pc H' ns cs := by
  obtain ⟨⟨ds, e1⟩, v, la, ls, lp, n1, n2, n3, ⟨r, ks, hs, e2, e3, e4, e5, e6, e7⟩, l⟩ := d
  exact ⟨⟨ds, s _ _ e1⟩, v.same s, la, ls, lp, n1, n2, n3, ⟨r, ks, hs, s _ _ e2, s _ _ e3, e4, s _ _ e5, e6.fr fun b w _ e => s b w e, e7⟩, l⟩
theorem Dst.fr {C CR : Addr} {L : Addr → Prop} {a o st pl pc : Addr} {H H' : Hp} {ns : List Int} {cs : List (Int × Int × List Int)} (d : Dst C CR L a o st pl pc H ns cs) (v' : Liv C CR L o pc H' ns cs) (f : Fr o pc H H') : Dst C CR L a o st pl pc H' ns cs := by
  obtain ⟨⟨ds, e1⟩, v, la, ls, lp, n1, n2, n3, ⟨r, ks, hs, e2, e3, e4, e5, e6, e7⟩, l⟩ := d
  have g : ∀ b w, L b → H b = some w → H' b = some w := fun b w lb e => f b w (Ne.symm (v.off b lb).1) (Ne.symm (v.off b lb).2) e
  exact ⟨⟨ds, g _ _ la e1⟩, v', la, ls, lp, n1, n2, n3, ⟨r, ks, hs, g _ _ ls e2, f _ _ (e4 _ (.inr (.inl rfl))) (e4 _ (.inr (.inr rfl))) e3, e4, g _ _ lp e5, e6.fr fun b w n e => Dfr.fr (a := a) (st := st) (pl := pl) f b w (fun z => n (own_of la ls lp z)) e, e7⟩, l⟩
theorem Dst.a {C CR : Addr} {L : Addr → Prop} {a o st pl pc : Addr} {H H' : Hp} {ns ms : List Int} {cs : List (Int × Int × List Int)} (d : Dst C CR L a o st pl pc H ns cs) (b : But a H H') (ea : H' a = some (.lst (ms.map V.int))) : Dst C CR L a o st pl pc H' ns cs := by
  obtain ⟨⟨ds, e1⟩, v, la, ls, lp, n1, n2, n3, ⟨r, ks, hs, e2, e3, e4, e5, e6, e7⟩, l⟩ := d
  exact ⟨⟨ms, ea⟩, v.but la b ea, la, ls, lp, n1, n2, n3, ⟨r, ks, hs, b _ _ (Ne.symm n1) e2, b _ _ (e4 _ (.inl la)) e3, e4, b _ _ (Ne.symm n2) e5, e6.fr fun b' w n e => b b' w (fun z => n (.inl (z ▸ la))) e, e7⟩, l⟩
end Ur
namespace Ur
open PySem L2
theorem Dst.fresh {C CR : Addr} {L : Addr → Prop} {a o st pl pc q : Addr} {H : Hp} {ns : List Int} {cs : List (Int × Int × List Int)} (d : Dst C CR L a o st pl pc H ns cs) (n : H q = none) : ∀ b, Own L o pc b → q ≠ b := by
  obtain ⟨⟨ds, e1⟩, v, la, ls, lp, n1, n2, n3, ⟨r, ks, hs, e2, e3, e4, e5, e6, e7⟩, l⟩ := d
  obtain ⟨dx, pn, mv, h1, _⟩ := v.obj
  obtain ⟨ts, k1, _⟩ := v.chs
  intro b hb e
  rcases hb with h | h | h
  · obtain ⟨w, ew⟩ := v.live b h
    rw [e, ew] at n; cases n
  · rw [e, h, h1] at n; cases n
  · rw [e, h, k1] at n; cases n
/-- all changes taken back -/
def undoAll (ns : List Int) (cs : List (Int × Int × List Int)) : List Int := cs.reverse.foldl (fun m c => layd m c.1 c.2.1 c.2.2) ns
theorem undoAll_snoc (ns : List Int) (cs : List (Int × Int × List Int)) (c : Int × Int × List Int) : undoAll ns (cs ++ [c]) = undoAll (layd ns c.1 c.2.1 c.2.2) cs := by
  unfold undoAll
  rw [List.reverse_append]
  rfl
theorem undoAll_note {ns gs : List Int} {cs : List (Int × Int × List Int)} {p m : Int} (h0 : 0 ≤ p) (h1 : 0 ≤ m) (h2 : p + m ≤ ns.length) : undoAll (layd ns p m gs) (cs ++ [(p, (gs.length : Int), gone ns p m)]) = undoAll ns cs := by
  rw [undoAll_snoc]
  show undoAll (layd (layd ns p m gs) p gs.length (gone ns p m)) cs = _
  rw [layd_back h0 h1 h2]
/-- a change is done: here first -/
theorem Dst.done {C CR : Addr} {L : Addr → Prop} {a o st pl pc q kp r : Addr} {ks : List Addr} {H : Hp} {ns ms : List Int} {cs : List (Int × Int × List Int)} (d : Dst C CR L a o st pl pc H ns cs) (es : H st = some (.lst [.ref r, .ref pl])) (ep : H pl = some (.lst (ks.map V.ref)))
    (eq : H q = some (.lst (ms.map V.int))) (ek : H kp = some (.lst (ns.map V.int))) (fq : ∀ b, Own L o pc b → q ≠ b) (fk : ∀ b, Own L o pc b → kp ≠ b) :
    Liv C CR L o pc (upd (upd H st (.lst [.ref q, .ref pl])) pl (.lst (ks.map V.ref ++ [.ref kp]))) ns cs ∧ ∃ hs, Back ns cs hs ∧ ∀ H' cs', Liv C CR L o pc H' ms cs' → Fr o pc (upd (upd H st (.lst [.ref q, .ref pl])) pl (.lst (ks.map V.ref ++ [.ref kp]))) H' → Back ms cs' (hs ++ [ns]) → ms.length ≤ 400 →
      Dst C CR L a o st pl pc H' ms cs' ∧ Dfr a st pl o pc H H' := by
  obtain ⟨⟨ds, e1⟩, v, la, ls, lp, n1, n2, n3, ⟨r0, ks0, hs, e2, e3, e4, e5, e6, e7⟩, l⟩ := d
  have hk : ks0 = ks := by
    rw [e5] at ep
    injection ep with ep
    injection ep with ep
    exact refs_inj ep
  subst hk
  have b1 : But st H (upd H st (.lst [.ref q, .ref pl])) := but_at but_refl
  have b2 : But pl (upd H st (.lst [.ref q, .ref pl])) (upd (upd H st (.lst [.ref q, .ref pl])) pl (.lst (ks0.map V.ref ++ [.ref kp]))) := but_at but_refl
  have v2 := (v.but ls b1 upd_same).but lp b2 upd_same
  refine ⟨v2, hs, e7, fun H' cs' v' f bk hl => ?_⟩
  have fD : Dfr a st pl o pc H (upd (upd H st (.lst [.ref q, .ref pl])) pl (.lst (ks0.map V.ref ++ [.ref kp]))) := (Dfr.st b1).trans (Dfr.pl b2)
  have fD2 := fD.trans (Dfr.fr (a := a) (st := st) (pl := pl) f)
  have g : ∀ b w, L b → (upd (upd H st (.lst [.ref q, .ref pl])) pl (.lst (ks0.map V.ref ++ [.ref kp]))) b = some w → H' b = some w := fun b w lb e => f b w (Ne.symm (v.off b lb).1) (Ne.symm (v.off b lb).2) e
  refine ⟨⟨⟨ds, g _ _ la ?_⟩, v', la, ls, lp, n1, n2, n3, ⟨q, ks0 ++ [kp], hs ++ [ns], g _ _ ls ?_, fD2 _ _ (fun n => fq _ (own_of la ls lp n) rfl) eq, fq, g _ _ lp ?_, ?_, bk⟩, hl⟩, fD2⟩
  · rw [upd_ne n2, upd_ne n1]; exact e1
  · rw [upd_ne n3, upd_same]
  · rw [upd_same, List.map_append]; rfl
  · exact (e6.snoc ek fk).fr fun b w n e => fD2 b w (fun z => n (own_of la ls lp z)) e
/-- .. and taken back -/
theorem Dst.undone {C CR : Addr} {L : Addr → Prop} {a o st pl pc k r : Addr} {ks : List Addr} {H : Hp} {ns : List Int} {cs : List (Int × Int × List Int)} (d : Dst C CR L a o st pl pc H ns cs) (es : H st = some (.lst [.ref r, .ref pl])) (ep : H pl = some (.lst ((ks ++ [k]).map V.ref))) :
    Liv C CR L o pc (upd (upd H pl (.lst (ks.map V.ref))) st (.lst [.ref k, .ref pl])) ns cs ∧ ∃ ds c, cs = ds ++ [c] ∧ (0 ≤ c.1 ∧ 0 ≤ c.2.1 ∧ c.1 + c.2.1 ≤ (ns.length : Int) ∧ (layd ns c.1 c.2.1 c.2.2).length ≤ 1000 ∧ c.2.2.length ≤ 2000) ∧
      ∀ H', Liv C CR L o pc H' (layd ns c.1 c.2.1 c.2.2) ds → Fr o pc (upd (upd H pl (.lst (ks.map V.ref))) st (.lst [.ref k, .ref pl])) H' → Dst C CR L a o st pl pc H' (layd ns c.1 c.2.1 c.2.2) ds ∧ Dfr a st pl o pc H H' := by
  obtain ⟨⟨ds, e1⟩, v, la, ls, lp, n1, n2, n3, ⟨r0, ks0, hs, e2, e3, e4, e5, e6, e7⟩, l⟩ := d
  have hk : ks0 = ks ++ [k] := by
    rw [e5] at ep
    injection ep with ep
    injection ep with ep
    exact refs_inj ep
  subst hk
  have b1 : But pl H (upd H pl (.lst (ks.map V.ref))) := but_at but_refl
  have b2 : But st (upd H pl (.lst (ks.map V.ref))) (upd (upd H pl (.lst (ks.map V.ref))) st (.lst [.ref k, .ref pl])) := but_at but_refl
  have v2 := (v.but lp b1 upd_same).but ls b2 upd_same
  rcases e7.last with ⟨_, h⟩ | ⟨c, m, cs', hs', rfl, rfl, bk, hm, hc, hml⟩
  · have := e6.len
    rw [h, List.length_append] at this
    cases this
  subst hm
  refine ⟨v2, cs', c, rfl, hc, fun H' v' f => ?_⟩
  obtain ⟨r1, ek, fk⟩ := e6.init
  have fD : Dfr a st pl o pc H (upd (upd H pl (.lst (ks.map V.ref))) st (.lst [.ref k, .ref pl])) := (Dfr.pl b1).trans (Dfr.st b2)
  have fD2 := fD.trans (Dfr.fr (a := a) (st := st) (pl := pl) f)
  have g : ∀ b w, L b → (upd (upd H pl (.lst (ks.map V.ref))) st (.lst [.ref k, .ref pl])) b = some w → H' b = some w := fun b w lb e => f b w (Ne.symm (v.off b lb).1) (Ne.symm (v.off b lb).2) e
  refine ⟨⟨⟨ds, g _ _ la ?_⟩, v', la, ls, lp, n1, n2, n3, ⟨k, ks, hs', g _ _ ls upd_same, fD2 _ _ (fun n => fk _ (own_of la ls lp n) rfl) ek, fk, g _ _ lp ?_, r1.fr fun b w n e => fD2 b w (fun z => n (own_of la ls lp z)) e, bk⟩, hml⟩, fD2⟩
  · rw [upd_ne n1, upd_ne n2]; exact e1
  · rw [upd_ne (Ne.symm n3), upd_same]
theorem ix0 {xs : List V} {v : V} : ixN (xs ++ [v]).length 0 = some 0 := by
  unfold ixN
  rw [if_pos (by omega), if_pos (by rw [List.length_append]; show (0 : Int) < ((xs.length + 1 : Nat) : Int); omega)]
  rfl
theorem Fr.fresh {o pc p : Addr} {H H3 H4 : Hp} (f : Fr o pc H H3) (b : But p H3 H4) (n : H p = none) : Fr o pc H H4 := fun x v h1 h2 e => b _ _ (fun z => by rw [z, n] at e; cases e) (f _ _ h1 h2 e)
theorem Liv.ob {C CR : Addr} {L : Addr → Prop} {o pc : Addr} {H : Hp} {ns : List Int} {cs : List (Int × Int × List Int)} (v : Liv C CR L o pc H ns cs) : ∃ (dx pn : Addr) (mv : V), H o = some (.ins C dx (livF pn pc mv)) := by
  obtain ⟨dx, pn, mv, eo, _⟩ := v.obj
  exact ⟨dx, pn, mv, eo⟩
theorem Dst.init {C CR : Addr} {L : Addr → Prop} {a o pc q pl st : Addr} {H : Hp} {r ds : List Int} (v : Liv C CR L o pc H r []) (la : L a) (ea : H a = some (.lst (ds.map V.int))) (nq : H q = none) (npl : (upd H q (.lst (r.map V.int))) pl = none)
    (nst : (upd (upd H q (.lst (r.map V.int))) pl (.lst [])) st = none) (hl : r.length ≤ 400) : Dst C CR (fun b => (L b ∨ b = pl) ∨ b = st) a o st pl pc (upd (upd (upd H q (.lst (r.map V.int))) pl (.lst [])) st (.lst [.ref q, .ref pl])) r [] := by
  have s1 : Same H (upd H q (.lst (r.map V.int))) := same_new nq
  have eq1 : (upd H q (.lst (r.map V.int))) q = some (.lst (r.map V.int)) := upd_same
  have v1 := v.same s1
  have ea1 := s1 _ _ ea
  have haq : a ≠ q := fun e => by rw [e, nq] at ea; cases ea
  have hoq : q ≠ o := fun e => by obtain ⟨dx, pn, mv, eo⟩ := v.ob; rw [← e, nq] at eo; cases eo
  have hcq : q ≠ pc := fun e => by obtain ⟨ts, ec, _⟩ := v.chs; rw [← e, nq] at ec; cases ec
  generalize (upd H q (.lst (r.map V.int))) = H1 at *
  have s2 : Same H1 (upd H1 pl (.lst [])) := same_new npl
  have ep2 : (upd H1 pl (.lst [])) pl = some (.lst []) := upd_same
  have v2 := v1.add npl s2 ep2
  have ea2 := s2 _ _ ea1
  have eq2 := s2 _ _ eq1
  have hap : a ≠ pl := fun e => by rw [e, npl] at ea1; cases ea1
  have hqp : q ≠ pl := fun e => by rw [e, npl] at eq1; cases eq1
  generalize (upd H1 pl (.lst [])) = H2 at *
  have s3 : Same H2 (upd H2 st (.lst [.ref q, .ref pl])) := same_new nst
  have v3 := v2.add nst s3 upd_same
  have has : a ≠ st := fun e => by rw [e, nst] at ea2; cases ea2
  have hqs : q ≠ st := fun e => by rw [e, nst] at eq2; cases eq2
  have hps : st ≠ pl := fun e => by rw [← e, nst] at ep2; cases ep2
  refine ⟨⟨ds, s3 _ _ ea2⟩, v3, .inl (.inl la), .inr rfl, .inl (.inr rfl), has, hap, hps, ⟨q, [], [], upd_same, s3 _ _ eq2, fun b hb => ?_, s3 _ _ ep2, Rws.nil, .nil⟩, hl⟩
  rcases hb with (h | h) | h | h
  · rcases h with h | h
    · intro e
      obtain ⟨w, ew⟩ := v.live b h
      rw [← e, nq] at ew; cases ew
    · rw [h]; exact hqp
  · rw [h]; exact hqs
  · rw [h]; exact hoq
  · rw [h]; exact hcq
/-- all but what D tells stays -/
def Keep (D : Addr → Prop) (H H' : Hp) : Prop := ∀ b v, ¬ D b → H b = some v → H' b = some v
theorem Keep.refl {D : Addr → Prop} {H : Hp} : Keep D H H := fun _ _ _ e => e
theorem Keep.trans {D : Addr → Prop} {H H' H'' : Hp} (f : Keep D H H') (g : Keep D H' H'') : Keep D H H'' := fun b v n e => g b v n (f b v n e)
theorem Keep.same {D : Addr → Prop} {H H' : Hp} (s : Same H H') : Keep D H H' := fun b v _ e => s b v e
theorem Keep.but {D : Addr → Prop} {a : Addr} {H H' : Hp} (l : D a) (s : But a H H') : Keep D H H' := fun b v n e => s b v (fun z => n (z ▸ l)) e
theorem Keep.fr {D : Addr → Prop} {o pc : Addr} {H H' : Hp} (l : D o) (k : D pc) (s : Fr o pc H H') : Keep D H H' := fun b v n e => s b v (fun z => n (z ▸ l)) (fun z => n (z ▸ k)) e
theorem Keep.le {D D' : Addr → Prop} {H H' : Hp} (f : Keep D H H') (l : ∀ b, D b → D' b) : Keep D' H H' := fun b v n e => f b v (fun z => n (l b z)) e
/-- places that weren't there don't count -/
theorem Keep.fresh {D D' : Addr → Prop} {H H' : Hp} (f : Keep D' H H') (l : ∀ b, D' b → D b ∨ H b = none) : Keep D H H' := fun b v n e => f b v (fun z => (l b z).elim n fun k => by rw [k] at e; cases e) e
theorem Liv.frm {C CR : Addr} {L D : Addr → Prop} {o pc : Addr} {H H' : Hp} {ns : List Int} {cs : List (Int × Int × List Int)} (v : Liv C CR L o pc H ns cs) (f : Keep D H H') (l : ∀ b, D b → L b) (lv' : ∀ b, L b → ∃ w, H' b = some w) : Liv C CR L o pc H' ns cs := by
  obtain ⟨⟨dx, pn, mv, h1, h2, h3, h4⟩, ⟨ts, k1, k2, k3⟩, off, lv, ne, l1, l2⟩ := v
  have g : ∀ b v, ¬ Own L o pc b → H b = some v → H' b = some v := fun b v n e => f b v (fun z => n (.inl (l b z))) e
  have go : ¬ D o := fun z => (off o (l _ z)).1 rfl
  have gc : ¬ D pc := fun z => (off pc (l _ z)).2 rfl
  exact ⟨⟨dx, pn, mv, f _ _ go h1, f _ _ (fun z => h3 pn (.inl (l _ z)) rfl) h2, h3, h4.imp id fun ⟨ro, e, r⟩ => ⟨ro, e, r.fr g⟩⟩, ⟨ts, f _ _ gc k1, k2, fun k t c a b => (k3 k t c a b).fr g⟩, off, lv', ne, l1, l2⟩
theorem Liv.lives {C CR : Addr} {L D : Addr → Prop} {o pc : Addr} {H H' : Hp} {ns : List Int} {cs : List (Int × Int × List Int)} (v : Liv C CR L o pc H ns cs) (f : Keep D H H') (d : ∀ b, D b → ∃ w, H' b = some w) : ∀ b, L b → ∃ w, H' b = some w := fun b lb => by
  by_cases h : D b
  · exact d b h
  · obtain ⟨w, e⟩ := v.live b lb
    exact ⟨w, f _ _ h e⟩
theorem Rdy.keep {C : Addr} {L D : Addr → Prop} {H H' : Hp} {o : Addr} {ns : List Int} (r : Rdy C L H o ns) (f : Keep D H H') (l : ∀ b, D b → L b) : Rdy C L H' o ns := r.fr fun b v n e => f b v (fun z => n (l b z)) e
/-- what is done at a live row and at the draws, all told -/
theorem Dst.keep {C CR : Addr} {L : Addr → Prop} {a o st pl pc : Addr} {H H' : Hp} {ns ms : List Int} {cs : List (Int × Int × List Int)} (d : Dst C CR L a o st pl pc H ns cs) (v' : Liv C CR L o pc H' ns cs) (ea : H' a = some (.lst (ms.map V.int))) (f : Keep (fun b => b = a ∨ b = o ∨ b = pc) H H') : Dst C CR L a o st pl pc H' ns cs := by
  obtain ⟨⟨ds, e1⟩, v, la, ls, lp, n1, n2, n3, ⟨r, ks, hs, e2, e3, e4, e5, e6, e7⟩, l⟩ := d
  have g : ∀ b w, L b → b ≠ a → H b = some w → H' b = some w := fun b w lb na e => f b w (fun z => z.elim na fun z => z.elim (Ne.symm (v.off b lb).1) (Ne.symm (v.off b lb).2)) e
  have h : ∀ b w, ¬ Own L o pc b → H b = some w → H' b = some w := fun b w n e => f b w (fun z => n (z.elim (fun z => .inl (z ▸ la)) .inr)) e
  exact ⟨⟨ms, ea⟩, v', la, ls, lp, n1, n2, n3, ⟨r, ks, hs, g _ _ ls (Ne.symm n1) e2, h _ _ (fun n => e4 _ n rfl) e3, e4, g _ _ lp (Ne.symm n2) e5, e6.fr h, e7⟩, l⟩
theorem Rdy.adds {C : Addr} {L D : Addr → Prop} {H : Hp} {o : Addr} {ns : List Int} (r : Rdy C L H o ns) (n : ∀ b, D b → H b = none) : Rdy C (fun b => L b ∨ D b) H o ns := by
  obtain ⟨dx, la, na, e1, e2, e3, k⟩ := r.all
  refine ⟨dx, la, na, e1, e2, e3, fun b hb => ?_⟩
  rcases hb with hb | hb
  · exact k b hb
  · have n := n b hb
    exact ⟨fun e => by rw [e, n] at e1; (cases e1), fun e => by rw [e, n] at e2; (cases e2), fun e => by rw [e, n] at e3; (cases e3)⟩
theorem Liv.adds {C CR : Addr} {L D : Addr → Prop} {o pc : Addr} {H H' : Hp} {ns : List Int} {cs : List (Int × Int × List Int)} (v : Liv C CR L o pc H ns cs) (n : ∀ b, D b → H b = none) (s : Same H H') (e : ∀ b, D b → ∃ w, H' b = some w) : Liv C CR (fun b => L b ∨ D b) o pc H' ns cs := by
  obtain ⟨⟨dx, pn, mv, h1, h2, h3, h4⟩, ⟨ts, k1, k2, k3⟩, off, lv, ne, l1, l2⟩ := v
  have nx : ∀ {x y : Addr} {w : HO}, D x → H y = some w → y ≠ x := fun d h z => by rw [z, n _ d] at h; cases h
  have own : ∀ {b : Addr}, Own (fun b => L b ∨ D b) o pc b → Own L o pc b ∨ D b := fun h => by
    rcases h with (h | h) | h
    · exact .inl (.inl h)
    · exact .inr h
    · exact .inl (.inr h)
  have h4' : mv = .non ∨ ∃ ro, mv = .ref ro ∧ Rdy CR (Own (fun b => L b ∨ D b) o pc) H' ro ns := by
    rcases h4 with h | ⟨ro, e1, r⟩
    · exact .inl h
    · exact .inr ⟨ro, e1, ((r.adds n).same s).sub fun b hb => own hb⟩
  refine ⟨⟨dx, pn, mv, s _ _ h1, s _ _ h2, fun b hb => ?_, h4'⟩, ⟨ts, s _ _ k1, k2, fun k t c a b => ?_⟩, fun b hb => ?_, fun b hb => ?_, ne, l1, l2⟩
  · rcases own hb with h | h
    · exact h3 b h
    · exact nx h h2
  · obtain ⟨g, m1, m2, m3⟩ := (k3 k t c a b).all
    refine ⟨g, s _ _ m1, s _ _ m2, fun b hb => ?_⟩
    rcases own hb with h | h
    · exact m3 b h
    · exact ⟨nx h m1, nx h m2⟩
  · rcases hb with h | h
    · exact off b h
    · exact ⟨nx h h1, nx h k1⟩
  · rcases hb with h | h
    · obtain ⟨w', e'⟩ := lv b h
      exact ⟨w', s _ _ e'⟩
    · exact e b h
/-- other barred places change -/
theorem Dst.frm {C CR : Addr} {L D : Addr → Prop} {a o st pl pc : Addr} {H H' : Hp} {ns : List Int} {cs : List (Int × Int × List Int)} (d : Dst C CR L a o st pl pc H ns cs) (f : Keep D H H') (l : ∀ b, D b → L b) (up : ∀ b, D b → ∃ w, H' b = some w) (na : ¬ D a) (ns' : ¬ D st) (np : ¬ D pl) : Dst C CR L a o st pl pc H' ns cs := by
  obtain ⟨⟨ds, e1⟩, v, la, ls, lp, n1, n2, n3, ⟨r, ks, hs, e2, e3, e4, e5, e6, e7⟩, h⟩ := d
  exact ⟨⟨ds, f _ _ na e1⟩, v.frm f l (v.lives f up), la, ls, lp, n1, n2, n3, ⟨r, ks, hs, f _ _ ns' e2, f _ _ (fun z => e4 _ (.inl (l _ z)) rfl) e3, e4, f _ _ np e5, e6.fr fun b w n e => f b w (fun z => n (.inl (l _ z))) e, e7⟩, h⟩
/-- while, where the test does something -/
theorem while_e {tb : TS} {D : Ends} {σ : L2.St} {H : Hp} {c : TT} (Pv T E : Nat → L2.St → Hp → Prop) (m0 : Nat) (h0 : Pv m0 σ H)
    (ht : ∀ m σ H, Pv m σ H → ∀ Q : Bool → Hp → Prop, (∀ H', T m σ H' → Q true H') → (∀ H', E m σ H' → Q false H') → c σ H Q)
    (hs : ∀ m σ H', T m σ H' → tb { D with nx := fun σ' H' => Iv (∃ m', m' < m ∧ Pv m' σ' H'), ct := fun σ' H' => Iv (∃ m', m' < m ∧ Pv m' σ' H'), bk := D.nx } σ H')
    (hd : ∀ m σ H', E m σ H' → D.nx σ H') : tWhile c tb D σ H := by
  refine ⟨Pv, ⟨m0, h0⟩, fun m σ H p => ht m σ H p _ (fun H' t => ?_) (fun H' e => ?_)⟩
  · exact (if_pos rfl).mpr ⟨_, fun _ _ n => n.out, hs m σ H' t⟩
  · exact (if_neg Bool.false_ne_true).mpr (hd m σ H' e)
theorem layd_mid (A X C gs : List Int) : layd (A ++ X ++ C) A.length X.length gs = A ++ gs ++ C := by
  unfold layd
  rw [Int.toNat_natCast, show ((A.length : Int) + (X.length : Int)).toNat = (A ++ X).length by rw [List.length_append]; omega, List.drop_left, List.append_assoc A X C, List.take_left]
theorem layd_set {ns : List Int} {p x : Int} (h0 : 0 ≤ p) (h1 : p < ns.length) : layd ns p 1 [x] = ns.set p.toNat x := by
  unfold layd
  rw [List.set_eq_take_append_cons_drop, if_pos (by omega), show (p + 1).toNat = p.toNat + 1 by omega, List.append_assoc]
  rfl
theorem layd_puts {ns : List Int} {l h x y : Int} (h0 : 0 ≤ l) (h1 : l ≤ h) (h2 : h ≤ ns.length) : layd (layd ns h 0 [y]) l 0 [x] = layd (layd ns l 0 [x]) (h + 1) 0 [y] := by
  have e : ns = ns.take l.toNat ++ (ns.drop l.toNat).take (h.toNat - l.toNat) ++ ns.drop h.toNat := by
    have e1 : ns.drop h.toNat = (ns.drop l.toNat).drop (h.toNat - l.toNat) := by rw [List.drop_drop]; congr 1; omega
    rw [e1, List.append_assoc, List.take_append_drop, List.take_append_drop]
  have hA : (ns.take l.toNat).length = l.toNat := by rw [List.length_take]; omega
  have hB : ((ns.drop l.toNat).take (h.toNat - l.toNat)).length = h.toNat - l.toNat := by rw [List.length_take, List.length_drop]; omega
  generalize ns.take l.toNat = A at *
  generalize (ns.drop l.toNat).take (h.toNat - l.toNat) = B at *
  generalize ns.drop h.toNat = G at *
  subst e
  have k1 := layd_mid (A ++ B) [] G [y]
  have k2 := layd_mid A [] (B ++ [y] ++ G) [x]
  have k3 := layd_mid A [] (B ++ G) [x]
  have k4 := layd_mid (A ++ [x] ++ B) [] G [y]
  rw [List.append_nil, List.length_append, hA, hB] at k1
  rw [List.append_nil, hA] at k2 k3
  rw [List.append_nil, List.length_append, List.length_append, hA, hB] at k4
  have i1 : (((l.toNat + (h.toNat - l.toNat) : Nat)) : Int) = h := by omega
  have i2 : ((l.toNat : Nat) : Int) = l := by omega
  have i3 : (((l.toNat + [x].length + (h.toNat - l.toNat) : Nat)) : Int) = h + 1 := by
    show (((l.toNat + 1 + (h.toNat - l.toNat) : Nat)) : Int) = h + 1
    omega
  have i0 : ((([] : List Int).length : Nat) : Int) = 0 := rfl
  rw [i1, i0] at k1
  rw [i2, i0] at k2 k3
  rw [i3, i0] at k4
  rw [k1, show A ++ B ++ [y] ++ G = A ++ (B ++ [y] ++ G) by simp only [List.append_assoc], k2, List.append_assoc A B G, k3, show A ++ [x] ++ (B ++ G) = A ++ [x] ++ B ++ G by simp only [List.append_assoc], k4]
  simp only [List.append_assoc]
theorem layd_sets {ns : List Int} {l h x y : Int} (h0 : 0 ≤ l) (h1 : l < h) (h2 : h < ns.length) : layd (layd ns l 1 [x]) h 1 [y] = layd (layd ns h 1 [y]) l 1 [x] := by
  rw [layd_set h0 (by omega), layd_set (by omega) h2, layd_set (by omega) (by rw [List.length_set]; omega), layd_set h0 (by rw [List.length_set]; omega)]
  exact List.set_comm _ _ (by omega)
theorem gone_one {ns : List Int} {p : Int} (h0 : 0 ≤ p) (h1 : p < ns.length) : gone ns p 1 = [ns.getD p.toNat 0] := by
  unfold gone
  show (ns.drop p.toNat).take 1 = _
  rw [List.drop_eq_getElem_cons (by omega), List.getD_eq_getElem?_getD, List.getElem?_eq_getElem (by omega)]
  rfl
theorem put_take {ns : List Int} {p x : Int} (h0 : 0 ≤ p) (h1 : p ≤ ns.length) : layd (layd ns p 0 [x]) p 1 [] = ns := layd_back (gs := [x]) (m := 0) h0 (by omega) (by omega)
theorem put_at {ns : List Int} {p x : Int} (h0 : 0 ≤ p) (h1 : p ≤ ns.length) : (layd ns p 0 [x]).getD p.toNat 0 = x := by
  unfold layd
  rw [List.getD_eq_getElem?_getD, List.append_assoc, List.getElem?_append_right (by rw [List.length_take]; omega), List.length_take, show p.toNat - min p.toNat ns.length = 0 by omega]
  rfl
theorem change_back {ns : List Int} {p x : Int} (h0 : 0 ≤ p) (h1 : p < ns.length) : layd (layd ns p 1 [x]) p 1 [ns.getD p.toNat 0] = ns := by
  have := layd_back (ns := ns) (gs := [x]) (p := p) (m := 1) h0 (by omega) (by omega)
  rw [gone_one h0 h1] at this
  exact this
theorem Liv.ups {C CR : Addr} {L : Addr → Prop} {o pc : Addr} {H : Hp} {ns : List Int} {cs : List (Int × Int × List Int)} (v : Liv C CR L o pc H ns cs) : ∀ b, (b = o ∨ b = pc) → ∃ w, H b = some w := by
  obtain ⟨dx, pn, mv, eo⟩ := v.ob
  obtain ⟨ts, ec, _⟩ := v.chs
  exact fun b h => h.elim (fun e => ⟨_, e ▸ eo⟩) (fun e => ⟨_, e ▸ ec⟩)
end Ur

namespace Ur
open PySem PySem.Spec PyProof.Rows L2
/-! ### an exception that is caught and kept: except X as e: kept = e -/
/-- an exception of the class cls, kept at a -/
def ExI (cls : Value) (a : Addr) : HO := .ext fun h => ∃ (o : Obj) (vs : Array Value), h.get? a = some o ∧ Zc cls none o ∧ o.data = .fields vs
theorem exI_ok {P : Program} {w : World} {H : Hp} {h : Heap} {a : Addr} {cls : Value} {o : Obj} {vs : Array Value} (g : h.get? a = some o) (z : Zc cls none o) (f : o.data = .fields vs) : ObjOk P w H h a (ExI cls a) :=
  ⟨⟨o, vs, g, z, f⟩, ⟨o, g⟩, fun _ _ ⟨u, v, q, r⟩ k => ⟨u, v, k u q, r⟩⟩
section
variable {X : Cx} {pins : List (Addr × Obj)} {σ : L2.St} {H : Hp} {s : Shared}
theorem keepE {a : Addr} {cls : Value} {oe : Obj} {vs : Array Value} (I : Inv X pins σ H s) (na : H a = none) (nL : a ≠ X.env.locals) (he : s.heap.get? a = some oe) (hz : Zc cls none oe) (hd : oe.data = .fields vs)
    (n0 : X.s_0.heap.get? a = none) (np : ∀ p ∈ X.pn ++ pins, p.1 ≠ a) : Inv X pins σ (upd H a (ExI cls a)) s := by
  have off : ∀ {b : Addr} {o : HO}, H b = some o → (upd H a (ExI cls a)) b = some o := fun e => by
    rw [upd_ne (ne_of_none e na)]; exact e
  refine ⟨I.ok, I.os, I.bare, ⟨I.base.keep, I.base.slot, fun b o e n hx => ?_, I.base.there, fun b xs e => off (I.base.tups b xs e), fun b o u e => off (I.base.frzs b o u e), fun b ps e => ?_⟩, I.loc, I.cell, ?_, fun x c e => ?_, fun p hp => ?_, fun b u e => ?_, I.len⟩
  · have nb : b ≠ a := fun z => by rw [z, n0] at e; cases e
    rw [upd_ne nb]
    exact I.base.free b o e n hx
  · obtain ⟨more, e2⟩ := I.base.tbls b ps e
    exact ⟨more, off e2⟩
  · rw [upd_ne (Ne.symm nL)]; exact I.free
  · have nc : c ≠ a := fun z => by
      obtain ⟨v, hv⟩ := I.cell x c e
      obtain ⟨o, h1, h2⟩ := hv
      rw [z, he] at h1
      cases h1
      simp [hd] at h2
    rw [upd_ne nc]
    exact I.freeC x c e
  · obtain ⟨h1, h2, h3⟩ := I.pin p hp
    exact ⟨h1, by rw [upd_ne (np p hp)]; exact h2, h3⟩
  · by_cases hb : b = a
    · subst hb
      rw [upd_same] at e
      cases e
      exact exI_ok he hz hd
    · rw [upd_ne hb] at e
      exact (I.hok b u e).stay (fun _ _ _ q => q) (fun c q => off q) fun c xs q => off q
end
/-- the wish for an exception that is caught, named, and kept behind the suite -/
def wKeep (K : PySem.W.Frag) (c : Value) (i : Nat) (ts : Addr → Value → Option Addr → TS) (D : Ends) : WX := fun cls d σ H =>
  PySem.W.exmOne K cls c = some true ∧ d = none ∧ ∀ a, H a = none → ts a cls d { nx := fun σ' H' => H' a = none ∧ D.nx (σ'.set i none) (upd H' a (ExI cls a)), rt := fun _ _ => False, bk := fun _ _ => False, ct := fun _ _ => False } (σ.set i (some (.ref a))) H
section
variable {X : Cx} {x n : Str} {c : Value} {i : Nat} {body suite : List Stmt} {b₀ : Stmt} {np pos pos' : Pos} {tb : WX → TS} {ts : Addr → Value → Option Addr → TS}
theorem ps_try_keep (hs : X.stack = X.env :: X.outer) (hf : X.env.frame = some X.env.locals) (hN : X.N.Nodup) (hi : X.N[i]? = some n) (hln : X.env.kindOf n = some .local) (hc : Names X x c) (hex : X.ex = [])
    (hb : ∀ (W : WX) (pn : List (Addr × Obj)) (xe : Value → Shared → Prop), Takes (X.tr pn xe) W → PassesOwn (model X.prog X.w) X.A X.env xe → PSs (X.tr pn xe) body (tb W))
    (hsu : ∀ (a : Addr) (oe : Obj) (cls : Value) (d : Option Addr) (pn : List (Addr × Obj)), Zc cls d oe → (∃ vs, oe.data = .fields vs) → PSs (X.suite a ((a, oe) :: pn)) (b₀ :: suite) (ts a cls d)) :
    PS X (.Try body [.ExceptHandler (some (.Name x np)) (some n) (b₀ :: suite) pos'] [] [] pos) (fun D σ H => tb (wKeep X.K c i ts D) D σ H) := by
  constructor
  intro pins s σ H D I h
  have okX := I.ok
  have frames : X.A.frames = some (X.env :: X.outer) := by rw [okX.frames, hs]
  refine wpAny_Try_except (wpAny_mono ((hb (wKeep X.K c i ts D) (X.pn ++ pins) (fun e s₁ => wpAny (model X.prog X.w) X.A (noteFrame e X.env) (fun _ s₂ => wpAny (model X.prog X.w) X.A (setFlight e none) (fun _ s₃ =>
    wpAny (model X.prog X.w) X.A (handleBy e X.env [.ExceptHandler (some (.Name x np)) (some n) (b₀ :: suite) pos']) (SP X pins D) X.xe s₃) X.xe s₂) X.xe s₁) (fun u s' met => ?_) PassesOwn.looking).run [] s σ H D (I.toTry _) h) (fun fl s1 ended => ?_) fun e s1 he => he)
  · obtain ⟨a, B, sI, pins', σ', H', cls, d, rfl, Jt, nb, up, sky, na, os, ag, hcls, rfl, hyes⟩ := met
    have J : Inv X pins σ' H' sI := Jt.ofTry okX
    have sk : Sky B (X.env :: X.outer) a (Zc cls none) X.env.locals s'.heap := by rw [← hs]; exact sky
    show wpAny (model X.prog X.w) X.A (noteFrame (.ref a) X.env) _ _ _
    refine Sky.land Zc.steady frames hf sk fun h3 held up3 => ?_
    have J3 : Inv X pins σ' H' { s' with heap := h3 } := J.landed nb held.1 (up.trans up3) os ag
    obtain ⟨o3, v3, g3, z3, f3⟩ := held.there
    have nfr : a ∉ frs (X.env :: X.outer) := fun hm => by
      obtain ⟨_, o', g', hnf⟩ := held.2.2.1.mem hm
      rw [g3] at g'; cases g'
      exact hnf _ f3
    have nL : a ≠ X.env.locals := fun z => nfr (List.mem_filterMap.mpr ⟨X.env, List.mem_cons_self, by rw [hf, z]⟩)
    have nF : a ∉ X.fs := fun hm => by
      obtain ⟨e, he, q⟩ := List.mem_filterMap.mp hm
      exact nfr (List.mem_filterMap.mpr ⟨e, List.mem_cons_of_mem _ he, q⟩)
    have newI : sI.heap.get? a = none := by
      cases q : sI.heap.get? a with
      | none => rfl
      | some o =>
        have z := nb a o q (by rw [hs]; exact nfr)
        rw [held.2.1] at z
        cases z
    have new0 : X.s_0.heap.get? a = none := by
      cases q : X.s_0.heap.get? a with
      | none => rfl
      | some o =>
        obtain ⟨o', z⟩ := J.base.there a o q (by rw [hex]; exact fun m => nomatch m)
        rw [newI] at z
        cases z
    have offP : ∀ p ∈ X.pn ++ pins, p.1 ≠ a := fun p hp z => by
      have e := (J.pin p hp).1
      rw [z, newI] at e
      cases e
    have S3 := J3.suite g3 f3 na nL nF
    refine wpAny_handleBy_cons (codeAny_handlers_test ?_) (by intro q; cases q)
    have LT : PySem.W.Looks (model X.prog X.w) h3 (typeOf (.ref a)) cls := fun A Q E s k q => wpAny_typeOf_ref (k _ _ g3) (by rw [z3.1]; exact q)
    have LM := PySem.W.exm_one (M := model X.prog X.w) (J3.kIn) LT hcls
    have named : ∀ {Q : Value → Shared → Prop} {E : Value → Shared → Prop}, Q c { s' with heap := h3 } → wpAny (model X.prog X.w) (X.A.mark (some (.ref a))) (eval (.Name x np) X.env) Q E { s' with heap := h3 } := fun {Q E} q => by
      obtain ⟨hg, hdbg, hm | ⟨hm, hv, hnn⟩⟩ := hc
      · exact ld_glob (X := X.suite a ((a, o3) :: (X.pn ++ pins))) S3 hg hm q hdbg
      · exact ld_blt (X := X.suite a ((a, o3) :: (X.pn ++ pins))) S3 hg hm hv q hnn hdbg
    refine named (LM.here (codeAny_handlers_suite_as (HandSPX.lands_againZ held fun h4 again up4 => ?_)))
    have J4 : Inv X pins σ' H' { s' with heap := h4 } := J.landed nb again.1 ((up.trans up3).trans up4) os ag
    obtain ⟨o4, v4, g4, z4, f4⟩ := again.there
    have S4 := J4.suite g4 f4 na nL nF
    refine store_ok (X := X.suite a ((a, o4) :: (X.pn ++ pins))) (v := .ref a) S4 hN hi (.inl hln) rfl (fun s5 S5 => ?_) (.inr hln)
    refine wpAny_mono ((hsu a o4 cls none (X.pn ++ pins) z4 ⟨_, f4⟩).run [] s5 _ H' _ S5 (hyes a na)) (fun fl s6 ended => ?_) fun _ _ z => False.elim z
    cases fl with
    | next =>
      obtain ⟨σ6, H6, S6, n6, q6⟩ := ended
      have P6 := S6.pin (a, o4) (List.mem_append_left _ List.mem_cons_self)
      have J6 : Inv X pins σ6 H6 s6 := S6.unsuite okX
      have K6 : Inv X pins σ6 (upd H6 a (ExI cls a)) s6 := keepE J6 n6 nL P6.1 z4 f4 new0 offP
      show wpAny (model X.prog X.w) X.A (do bindName X.env n .none; unbindBehindTheSuite X.env n pos') (fun _ s7 => _) X.xe s6
      exact gone_ok K6 hN hi hln fun s7 J7 => ⟨_, _, J7, q6⟩
    | brk => obtain ⟨_, _, _, z⟩ := ended; exact z.elim
    | cont => obtain ⟨_, _, _, z⟩ := ended; exact z.elim
    | ret u => obtain ⟨_, _, _, _, _, z⟩ := ended; exact z.elim
  · cases fl with
    | next =>
      obtain ⟨σ', H', J', q⟩ := ended
      exact wpAny_execs_nil ⟨σ', H', J'.ofTry okX, q⟩
    | brk => obtain ⟨σ', H', J', q⟩ := ended; exact ⟨σ', H', J'.ofTry okX, q⟩
    | cont => obtain ⟨σ', H', J', q⟩ := ended; exact ⟨σ', H', J'.ofTry okX, q⟩
    | ret u => obtain ⟨v, σ', H', J', r, q⟩ := ended; exact ⟨v, σ', H', J'.ofTry okX, r, q⟩
end
/-- isinstance of a kept exception: a class, or a tuple of classes -/
def rIsK (K : PySem.W.Frag) : List V → Hp → VK → Prop := fun xs H Q =>
  ∃ (a D : Addr) (c : V) (b : Bool), xs = [.ref a, c] ∧ H a = some (ExI (.ref D) a) ∧ ExcC K D ∧
    ((∃ u, ClsV c u ∧ PySem.W.kitOne K (.ref D) u = some b) ∨ ∃ (tp : Addr) (cs : List V) (us : List Value), c = .ref tp ∧ H tp = some (.tup cs) ∧ Paired ClsV cs us ∧ PySem.W.kitAny K (.ref D) us = some b) ∧ Q (.bl b) H
theorem call_isK {X : Cx} {K : PySem.W.Frag} (hK : X.K = K) : CallR X (.builtin "isinstance") (rIsK K) := by
  subst hK
  intro pins s σ H xs us Q I r h
  obtain ⟨a, D, c, b, rfl, ha, C, hc, q⟩ := h
  obtain ⟨u1, u2, rfl, r1, r2⟩ := vals2 r
  cases (show u1 = Value.ref a from r1)
  obtain ⟨⟨oe, vs, hget, hz, hv⟩, _⟩ := (show ObjOk X.prog X.w H s.heap a (ExI (.ref D) a) from I.hok a _ ha)
  have J : PySem.W.InstAt s.heap a oe D none := by
    obtain ⟨oc, od, oda, osl⟩ := oe
    obtain ⟨h1, h2⟩ := hz
    dsimp only at h1 h2 hv
    subst h1 h2 hv
    exact ⟨hget, rfl, rfl, trivial⟩
  have Z := PySem.W.handS_kitx_exc (x := a) (ox := oe) C.hg C.hk C.hs C.hd C.ha C.hn C.ht C.hm
  rcases hc with ⟨u, k, e⟩ | ⟨tp, cs, ws, rfl, hT, k, e⟩
  · have e2 := k.eq r2
    subst e2
    exact PySem.W.kia_one Z I.kIn J e (fun z => nomatch z) fun tk => ⟨.bl b, H, I.kept (t' := tk) fun _ _ z => z, rfl, q⟩
  · cases (show u2 = Value.ref tp from r2)
    obtain ⟨_, its, rv, o, h1, h2, n, h3⟩ := (show ObjOk X.prog X.w H s.heap tp (.tup cs) from I.hok tp _ hT)
    have e3 := ClsV.all k rv
    subst e3
    obtain ⟨oc, od, dt, sl⟩ := o
    simp only at h2 h3
    subst h2 h3
    exact PySem.W.kia_tup Z I.kIn J h1 e (fun z => nomatch z) fun tk => ⟨.bl b, H, I.kept (t' := tk) fun _ _ z => z, rfl, q⟩
theorem isK1 {K : PySem.W.Frag} {D a C : Addr} {b : Bool} {H : Hp} {Q : VK} (e : H a = some (ExI (.ref D) a)) (E : ExcC K D) (h : PySem.W.kitOne K (.ref D) (.ref C) = some b) (q : Q (.bl b) H) : rIsK K [.ref a, .ref C] H Q :=
  ⟨a, D, _, b, rfl, e, E, .inl ⟨_, .own C, h⟩, q⟩
theorem isKT {K : PySem.W.Frag} {D a : Addr} {n : String} {b : Bool} {H : Hp} {Q : VK} (e : H a = some (ExI (.ref D) a)) (E : ExcC K D) (h : PySem.W.kitOne K (.ref D) (.type n) = some b) (q : Q (.bl b) H) : rIsK K [.ref a, .ty n] H Q :=
  ⟨a, D, _, b, rfl, e, E, .inl ⟨_, .ty n, h⟩, q⟩
theorem isK2 {K : PySem.W.Frag} {D a p : Addr} {vs : List V} {cs : List Addr} {H : Hp} {Q : VK} (e : H a = some (ExI (.ref D) a)) (E : ExcC K D) (h : NoneOf K D cs) (et : H p = some (.tup vs)) (hv : vs = cs.map V.ref) (q : Q (.bl false) H) : rIsK K [.ref a, .ref p] H Q :=
  ⟨a, D, _, false, rfl, e, E, .inr ⟨p, _, _, rfl, by rw [et, hv], NoneOf.pair cs, h.any⟩, q⟩
theorem isN_ref {A B : Prop} {a : Addr} (b : B) : if decide (V.ref a = V.non) = true then A else B := by rw [if_neg (by rw [decide_eq_false (by intro e; cases e)]; exact Bool.false_ne_true)]; exact b
end Ur

namespace Ur
open PySem L2 PySem.Spec PyProof.Rows
/-! ### things that are no places, no windows -/
def NoPl (n : Nat) (v : V) : Prop := ∀ p : Int, v = .int p → ¬ (0 ≤ p ∧ p ≤ n)
def NoWin (n : Nat) (v w : V) : Prop := ∀ f b : Int, v = .int f → w = .int b → ¬ (0 ≤ f ∧ f ≤ b ∧ b ≤ n)
theorem NoPl.winL {n : Nat} {v w : V} (h : NoPl n v) : NoWin n v w := fun f b e1 _ k => h f e1 ⟨k.1, by omega⟩
theorem NoPl.winR {n : Nat} {v w : V} (h : NoPl n w) : NoWin n v w := fun f b _ e2 k => h b e2 ⟨by omega, k.2.2⟩
theorem NoWin.ints {n : Nat} {f b : Int} (h : ¬ (0 ≤ f ∧ f ≤ b ∧ b ≤ n)) : NoWin n (.int f) (.int b) := fun _ _ e1 e2 k => by cases e1; cases e2; exact h k
theorem NoPl.int {n : Nat} {p : Int} (h : ¬ (0 ≤ p ∧ p ≤ n)) : NoPl n (.int p) := fun _ e k => by cases e; exact h k
/-- a call that is refused -/
def BadW (n : Nat) (way : Int) (v w : V) : Prop := ((way = 0 ∨ way = 1) ∧ NoWin n v w) ∨ ((way = 2 ∨ way = 3) ∧ NoPl n v ∧ ∃ m : Int, w = .int m)
/-- a place or none -/
theorem Kind.place {H : Hp} {v : V} (n : Nat) (k : Kind H v) : (∃ p : Int, v = .int p ∧ 0 ≤ p ∧ p ≤ n) ∨ NoPl n v := by
  by_cases h : ∃ p : Int, v = .int p ∧ 0 ≤ p ∧ p ≤ n
  · exact .inl h
  · exact .inr fun p e k => h ⟨p, e, k.1, k.2⟩
def optD : Option Nat → PyData
  | some n => .int n
  | none => .none
theorem dp_opt {K : PySem.W.Frag} {H : Hp} : ∀ o : Option Nat, Dp K H (optV o) (optD o)
  | some n => .int n
  | none => .non
theorem optD_ok : ∀ o : Option Nat, PyData.canLay0 (optD o) = true ∧ PyData.depth (optD o) ≤ 1 ∧ PyData.eqv (optD o) (optD o) = true
  | some n => ⟨rfl, by simp [optD, PyData.depth], by simp [optD, PyData.eqv]⟩
  | none => ⟨rfl, by simp [optD, PyData.depth], by simp [optD, PyData.eqv]⟩
def keptD (u : Int) (fs : List Int) (e b : Option Nat) : PyData := .list [.int u, .list (fs.map PyData.int), optD e, optD b]
theorem dp_kept {K : PySem.W.Frag} {H : Hp} {a pf : Addr} {u : Int} {fs : List Int} {e b : Option Nat} (h : SqL K H a [.int u, .ref pf, optV e, optV b]) (hf : SqL K H pf (fs.map V.int)) : Dp K H (.ref a) (keptD u fs e b) :=
  .lst h (.cons (.int u) (.cons (dp_ints hf) (.cons (dp_opt e) (.cons (dp_opt b) .nil))))
theorem shaped_kept (u : Int) (fs : List Int) (e b : Option Nat) : SeqAt.shaped (keptD u fs e b) = true := by
  obtain ⟨e1, e2, _⟩ := optD_ok e
  obtain ⟨b1, b2, _⟩ := optD_ok b
  refine shaped_of ?_ ?_
  · show PyData.canLayAll0 [.int u, .list (fs.map PyData.int), optD e, optD b] = true
    refine canLayAll_of _ fun d hd => ?_
    simp only [List.mem_cons, List.not_mem_nil, or_false] at hd
    rcases hd with rfl | rfl | rfl | rfl
    · rfl
    · exact canLayAll_ints fs
    · exact e1
    · exact b1
  · show PyData.depth (.list [.int u, .list (fs.map PyData.int), optD e, optD b]) ≤ 64
    rw [PyData.depth]
    have := depthAll_of (m := 2) [.int u, .list (fs.map PyData.int), optD e, optD b] fun d hd => by
      simp only [List.mem_cons, List.not_mem_nil, or_false] at hd
      rcases hd with rfl | rfl | rfl | rfl
      · simp [PyData.depth]
      · exact depth_ints fs
      · omega
      · omega
    omega
theorem eqv_kept (u : Int) (fs : List Int) (e b : Option Nat) : PyData.eqv (keptD u fs e b) (keptD u fs e b) = true := by
  show PyData.eqvAll [.int u, .list (fs.map PyData.int), optD e, optD b] [.int u, .list (fs.map PyData.int), optD e, optD b] = true
  refine eqvAll_refl _ fun d hd => ?_
  simp only [List.mem_cons, List.not_mem_nil, or_false] at hd
  rcases hd with rfl | rfl | rfl | rfl
  · simp [PyData.eqv]
  · rw [eqv_ints, decide_eq_true rfl]
  · exact (optD_ok e).2.2
  · exact (optD_ok b).2.2
theorem rEq_kept {K : PySem.W.Frag} {H : Hp} {a pf a2 pf2 : Addr} {u : Int} {fs : List Int} {e b : Option Nat} {Q : VK} (h : H a = some (.lst [.int u, .ref pf, optV e, optV b])) (hf : H pf = some (.lst (fs.map V.int)))
    (h2 : H a2 = some (.lst [.int u, .ref pf2, optV e, optV b])) (hf2 : H pf2 = some (.lst (fs.map V.int))) (q : Q (.bl true) H) : rEqD K (.ref a) (.ref a2) H Q :=
  ⟨_, _, dp_kept (SqL.of h) (SqL.of hf), dp_kept (SqL.of h2) (SqL.of hf2), shaped_kept _ _ _ _, shaped_kept _ _ _ _, by rw [eqv_kept]; exact q⟩
end Ur

namespace Ur
open PySem PySem.Spec PyProof.Rows L2
/-! ### o.m(e, ..) of an own method that may raise, the exception wished for at the caller's slots -/
section
variable {X : Cx} {CX : CXT} {k : Nat} {C f : Addr} {fd : FuncData} {ps : List Str} {sp : Sp} {E : L2.St → XK} {m : Str} {pos apos : Pos} {e o : Expr} {es : List Expr} {ta : TE} {t : TA} {pl : Sem Bool}
def tMethA (C : Addr) (m : Str) (sp : Sp) (E : L2.St → XK) (ta : TE) (t : TA) : TE := fun σ H Q => ta σ H fun x H1 =>
  ∃ a dx fs, x = .ref a ∧ H1 a = some (.ins C dx fs) ∧ fs.lookup m = none ∧ t σ H1 fun vs H2 => sp (x :: vs) H2 Q (E σ)
theorem pe_methA (he : PE X o ta) (c : Cls X.K C) (hm : Meth X.K C m f) (F : FnOk X.prog X.w X.K X.mg X.base CX k f fd ps sp) (hr : Room k X.A) (hb : Binds X.K fd ps []) (hx : ∀ σ, PassesAt CX X σ (E σ)) (ha : PA X (e :: es) t)
    (hst : starEach (e :: es) X.env = (false, eval e X.env) :: starEach es X.env := by rfl) (hpl : (backTo pos (starEach es X.env)).any (·.1) = false := by rfl)
    (ht : eval (.Call (.Attribute o m apos) (e :: es) [] pos) X.env = (do
      let ov ← eval o X.env
      standAt apos.atName
      let (f, first) ← holding [ov] (getMethod ov m pl)
      callWith pos f first (backTo pos (starEach (e :: es) X.env)) (backToKw pos (keywordEach [] X.env))) := by rfl) :
    PE X (.Call (.Attribute o m apos) (e :: es) [] pos) (tMethA C m sp E ta t) := by
  constructor
  intro pins s σ H Q I h
  refine PySem.W.methodCall_KW (pl := pl) (thn (he.run pins s σ H _ I h) ?_) ht
  rintro u s1 ⟨x, H1, I1, rx, a, dx, fs, rfl, ea, l, q⟩
  cases (show u = Value.ref a from rx)
  refine getmeth_ok I1 ea c hm l (PySem.W.callWith_K (first := [.ref a]) (h₀ := X.base) I.ok.mod.kin hm.kp (thn (ha.run pos pins s1 σ H1 _ I1 q) ?_) hst hpl)
  rintro us s2 ⟨vs, H2, I2, r, q2⟩
  exact ⟨I2.kIn, run_fnS (us := .ref a :: us) (vs := .ref a :: vs) F hr hb (hx σ) I2 (.cons rfl r) q2⟩
theorem pe_methA0 (he : PE X o ta) (c : Cls X.K C) (hm : Meth X.K C m f) (F : FnOk X.prog X.w X.K X.mg X.base CX k f fd ps sp) (hr : Room k X.A) (hb : Binds X.K fd ps []) (hx : ∀ σ, PassesAt CX X σ (E σ))
    (ht : eval (.Call (.Attribute o m apos) [] [] pos) X.env = (do
      let ov ← eval o X.env
      standAt apos.atName
      let (f, first) ← holding [ov] (getMethod ov m pl)
      callWith pos f first (backTo pos (starEach [] X.env)) (backToKw pos (keywordEach [] X.env))) := by rfl) :
    PE X (.Call (.Attribute o m apos) [] [] pos) (tMethA C m sp E ta tNil) := by
  constructor
  intro pins s σ H Q I h
  refine PySem.W.methodCall_KW (pl := pl) (thn (he.run pins s σ H _ I h) ?_) ht
  rintro u s1 ⟨x, H1, I1, rx, a, dx, fs, rfl, ea, l, q⟩
  cases (show u = Value.ref a from rx)
  refine getmeth_ok I1 ea c hm l (PySem.W.callWith_K0 (first := [.ref a]) I1.kIn hm.kp ?_)
  exact run_fnS (us := [.ref a]) (vs := [.ref a]) F hr hb (hx σ) I1 (.cons rfl .nil) q
end
end Ur

namespace Ur
open PySem L2 PySem.Spec PyProof.Rows
/-! ### two truths, told apart from two others -/
theorem dp_two {K : PySem.W.Frag} {H : Hp} {p : Addr} {a b : Bool} (h : H p = some (.lst [.bl a, .bl b])) : Dp K H (.ref p) (.list [.bool a, .bool b]) :=
  .lst (SqL.of h) (.cons (.bl _) (.cons (.bl _) .nil))
theorem rNe_tf {K : PySem.W.Frag} {H : Hp} {p q : Addr} {Q : VK} (h1 : H p = some (.lst [.bl true, .bl false])) (h2 : H q = some (.lst [.bl true, .bl true])) (w : Q (.bl true) H) : rNeD K (.ref p) (.ref q) H Q :=
  ⟨_, _, dp_two h1, dp_two h2, by decide +kernel, by decide +kernel, by
    have : PyData.eqv (.list [.bool true, .bool false]) (.list [.bool true, .bool true]) = false := by decide +kernel
    rw [this]
    exact w⟩
theorem rNe_ft {K : PySem.W.Frag} {H : Hp} {p q : Addr} {Q : VK} (h1 : H p = some (.lst [.bl false, .bl true])) (h2 : H q = some (.lst [.bl true, .bl true])) (w : Q (.bl true) H) : rNeD K (.ref p) (.ref q) H Q :=
  ⟨_, _, dp_two h1, dp_two h2, by decide +kernel, by decide +kernel, by
    have : PyData.eqv (.list [.bool false, .bool true]) (.list [.bool true, .bool true]) = false := by decide +kernel
    rw [this]
    exact w⟩
/-- what is no place of a live row, with one more to the end for put -/
def NoPlI (m : Int) (v : V) : Prop := ∀ p : Int, v = .int p → ¬ (0 ≤ p ∧ p ≤ m)
theorem NoPlI.int {m p : Int} (h : ¬ (0 ≤ p ∧ p ≤ m)) : NoPlI m (.int p) := fun _ e => by cases e; exact h
theorem kind_fr {o pc : Addr} {H H' : Hp} {v : V} (k : Kind H v) (n : v ≠ .ref o) (m : v ≠ .ref pc) (f : ∀ b w, b ≠ o → b ≠ pc → H b = some w → H' b = some w) : Kind H' v := by
  rcases k with ⟨i, rfl⟩ | ⟨c, rfl⟩ | ⟨x, rfl⟩ | rfl | ⟨p, xs, rfl, e⟩ | ⟨p, xs, rfl, e⟩ | ⟨p, xs, rfl, e⟩
  · exact .int
  · exact .bl
  · exact .str
  · exact .non
  · exact .lst (f _ _ (fun z => n (by rw [z])) (fun z => m (by rw [z])) e)
  · exact .tup (f _ _ (fun z => n (by rw [z])) (fun z => m (by rw [z])) e)
  · exact .dct (f _ _ (fun z => n (by rw [z])) (fun z => m (by rw [z])) e)
theorem rev_at {α : Type} {xs : List α} {i : Nat} {x : α} (h : xs.reverse[i]? = some x) : i < xs.length ∧ xs[xs.length - 1 - i]? = some x := by
  have hi : i < xs.length := by
    have := (List.getElem?_eq_some_iff.mp h).1
    rwa [List.length_reverse] at this
  rw [List.getElem?_reverse hi] at h
  exact ⟨hi, h⟩
theorem take_cut {α : Type} {xs : List α} {i : Nat} {x : α} (hi : i < xs.length) (h : xs[xs.length - 1 - i]? = some x) : xs.take (xs.length - i) = xs.take (xs.length - (i + 1)) ++ [x] := by
  have e : xs.length - i = (xs.length - 1 - i) + 1 := by omega
  rw [e, List.take_succ, h, show xs.length - (i + 1) = xs.length - 1 - i by omega]
  rfl
end Ur

local macro_rules | `(tactic| kct_strs) => `(tactic| first
  | (with_reducible assumption)
  | ((with_reducible show (_ : Option L2.HO) = some _); first
    | (with_reducible exact Ur.upd_snoc)
    | (with_reducible exact Ur.upd_cutto (by omega))
    | (with_reducible exact Ur.upd_cutmid (by omega) (by omega))
    | (with_reducible exact Ur.upd_cutfrom (by omega))
    | (with_reducible exact Ur.upd_cutall)
    | (with_reducible exact Ur.upd_set)
    | (with_reducible exact Ur.upd_app)
    | (with_reducible exact Ur.upd_rep)
    | (with_reducible exact Ur.upd_rep0)
    | (with_reducible exact Ur.upd_1cat)
    | (with_reducible exact L2.upd_same)
    | ((with_reducible apply Ur.dead_upd); exact L2.upd_same)
    | ((fail_if_success (with_reducible apply Ur.dead_upd)); (with_reducible apply Ur.get_upd); (focus kcj_m); kct_strs)
    | ((with_reducible apply Ur.same_get); (focus (with_reducible assumption)); kct_strs)
    | ((with_reducible apply Ur.but_get); (focus (with_reducible assumption)); (focus kcj_m); kct_strs))
  | ((with_reducible show L2.SqL _ _ _ _); first
    | ((with_reducible apply Ur.sqlK); (focus (with_reducible assumption)); (focus (first | (with_reducible rfl) | rfl)))
    | ((with_reducible apply L2.SqL.of); kct_strs)
    | ((with_reducible apply L2.Same.seq); (focus (with_reducible assumption)); kct_strs)
    | ((with_reducible apply Ur.sql_new); (focus (with_reducible assumption)); kct_strs)
    | ((with_reducible apply Ur.sql_upd); (focus kcj_m); kct_strs))
  | ((with_reducible show L2.SqT _ _ _ _); (with_reducible apply L2.SqT.of); kct_strs))
local macro_rules | `(tactic| kcj_m) => `(tactic| ((with_reducible show _ ≠ _); (fail_if_success (with_reducible apply Ur.dead_ne)); first
  | (with_reducible assumption)
  | (with_reducible exact Ne.symm (by assumption))
  | ((with_reducible apply Ur.ne_new); (focus (with_reducible assumption)); kct_strs)
  | ((with_reducible apply Ur.ne_new'); (focus (with_reducible assumption)); kct_strs)
  | (refine L2.ne_of (by assumption) (by kct_strs) (by intro q; cases q))))
local macro_rules | `(tactic| tb_rel) => `(tactic| first
  | ((with_reducible show List.length (L2.putF _ _ _) < _); first | exact Ur.pf1 | exact Ur.pf2 | exact Ur.pf3)
  | ((with_reducible show List.length (Ur.livF _ _ _) < _); exact Ur.pfL)
  | ((with_reducible show List.length (L2.putF _ _ (Ur.livF _ _ _)) < _); exact Ur.pfM)
  | ((with_reducible show List.lookup _ _ = _); first | exact Ur.rdy_many | exact Ur.rdy_lasts | exact Ur.rdy_nexts | exact Ur.rdy_no (by decide) (by decide) (by decide) | exact Ur.hld_times | exact Ur.hld_no (by decide) | exact Ur.liv_numbers | exact Ur.liv_changes | exact Ur.liv_made | exact Ur.liv_no (by decide) (by decide) (by decide))
  | ((fail_if_success (with_reducible show (_ : Option L2.HO) = _)); (with_reducible show _ = _); exact rfl)
  | (with_reducible assumption)
  | ((with_reducible show (_ : Option L2.HO) = Option.some _); kct_strs)
  | ((with_reducible show L2.SqL _ _ _ _); kct_strs)
  | ((with_reducible show ∃ xs, L2.SqL _ _ _ xs); exact ⟨_, by kct_strs⟩)
  | ((with_reducible show L2.SqT _ _ _ _); kct_strs)
  | ((with_reducible show ∃ xs, L2.SqT _ _ _ xs); exact ⟨_, by kct_strs⟩)
  | ((with_reducible show _ ≠ _); kcj_m)
  | ((with_reducible show L2.Same _ _); kcj_in)
  | ((with_reducible show Ur.IsW _ _ _); first | (with_reducible assumption) | exact Ur.IsW.int | exact Ur.IsW.bl | exact Ur.IsW.str | exact Ur.IsW.non | exact Ur.IsW.lst (by kct_strs) | exact Ur.IsW.tup (by kct_strs) | exact Ur.IsW.dct (by kct_strs))
  | ((with_reducible show Ur.Kind _ _); first | (with_reducible assumption) | exact Ur.Kind.int | exact Ur.Kind.bl | exact Ur.Kind.str | exact Ur.Kind.non | ((with_reducible apply Ur.Kind.same); (focus (with_reducible assumption)); kcj_in) | exact Ur.Kind.lst (by kct_strs) | exact Ur.Kind.tup (by kct_strs) | exact Ur.Kind.dct (by kct_strs))
  | ((with_reducible show Ur.But _ _ _); cc_are)
  | ((with_reducible show (_ : Option L2.HO) = Option.none); cc_off)
  | ((fail_if_success (with_reducible show (_ : Option L2.HO) = _)); first
    | (intros; omega)
    | assumption
    | exact Ur.at_int' (by omega) (by omega)
    | exact Ur.at_int' (by dsimp only; omega) (by dsimp only; omega)
    | exact Ur.ixN_iv (by omega) (by omega)
    | exact Ur.at2 (by omega) (by omega)
    | exact Ur.at3 (by omega) (by omega)
    | exact Ur.at4 (by omega) (by omega)
    | exact Ur.at6 (by omega) (by omega)
    | ((with_reducible show L2.IsD _ _); exact Ur.isD_of (by kct_strs))
    | ((with_reducible show L2.tyV _ _ _ _); exact Ur.tyL (by kct_strs))
    | ((with_reducible show L2.DGet _ _ _ _); exact Ur.dget_int (by kct_strs))
    | ((with_reducible show L2.DPut _ _ _ _ _); exact Ur.dput_int (by kct_strs) (Ur.szl (by omega)))
    | ((with_reducible show _ ∨ _); first | exact Or.inl (by kct_strs) | exact Or.inr (by kct_strs) | exact Or.inl ⟨by omega, by omega⟩ | exact Or.inr ⟨by omega, by omega⟩ | exact Or.inr ⟨by decide, by decide⟩ | exact Or.inl ⟨by decide, by decide⟩)
    | ((with_reducible show _ ∧ _); first | exact ⟨by omega, by omega⟩ | exact ⟨by decide, by decide⟩ | exact ⟨by decide, by decide, by decide⟩)
    | exact Ur.sz (by (try simp only [List.length_append, List.length_map, List.length_cons, List.length_nil, List.length_take, List.length_drop, List.length_range, List.length_replicate, List.length_set, List.length_reverse]); omega)
    | exact Ur.szl (by (try simp only [List.length_append, List.length_map, List.length_cons, List.length_nil, List.length_take, List.length_drop, List.length_range, List.length_replicate, List.length_set, List.length_reverse]); omega)
    | (apply Ur.szT; (focus (repeat (first | (apply Nat.add_le_add) | (apply Ur.lb_map) | (apply Ur.lb_filter) | (apply Ur.lb_app) | (apply Ur.lb_cons) | exact Ur.lb_nil | exact Ur.lb_range | exact Nat.le_refl _))); omega)
    | (apply Ur.szlT; (focus (repeat (first | (apply Nat.add_le_add) | (apply Ur.lb_map) | (apply Ur.lb_filter) | (apply Ur.lb_app) | (apply Ur.lb_cons) | exact Ur.lb_nil | exact Ur.lb_range | exact Nat.le_refl _))); omega)
    | ((with_reducible show List.length _ ≤ _); (first | (rw [List.length_take, List.length_drop]; omega) | (rw [List.length_take]; omega) | (rw [List.length_drop]; omega) | (rw [List.length_reverse]; omega)))
    | ((with_reducible show L2.RgOk _ _); exact L2.RgOk.of_le (by omega) (by omega) (by omega) (by omega))
    | exact Nat.succ_pos _
    | exact Ur.pos_app
    | exact ⟨by omega, by omega⟩
    | exact Or.inl ⟨by omega, by omega⟩
    | exact Or.inr ⟨by omega, by omega⟩
    | exact Or.inr ⟨by decide, by decide⟩
    | exact Or.inl ⟨by decide, by decide⟩
    | exact ⟨by decide, by decide⟩
    | exact ⟨by decide, by decide, by decide⟩
    | decide))
local macro_rules | `(tactic| tb_start) => `(tactic| repeat (first
  | (with_reducible refine Ur.tCi ?_)
  | (with_reducible refine Ur.tNilI ?_)
  | (with_reducible refine L2.iteF ?_)
  | (with_reducible refine L2.iteT ?_)
  | (with_reducible refine Ur.neg_same ?_)
  | (with_reducible refine Ur.pos_same ?_)
  | ((with_reducible apply Ur.isiK); (focus (first | exact Ur.tyx_int | exact Ur.tyx_bl | exact Ur.tyx_non | exact Ur.tyx_str | exact Ur.tyx_lst (by kct_strs) | exact Ur.tyx_tup (by kct_strs) | exact Ur.tyx_dK (by kct_strs))); (focus (first | exact Ur.kb_int_int | exact Ur.kb_int_bool | exact Ur.kb_int_str | exact Ur.kb_int_list | exact Ur.kb_int_tuple | exact Ur.kb_int_dict | exact Ur.kb_bool_int | exact Ur.kb_bool_bool | exact Ur.kb_bool_str | exact Ur.kb_bool_list | exact Ur.kb_bool_tuple | exact Ur.kb_bool_dict | exact Ur.kb_str_int | exact Ur.kb_str_bool | exact Ur.kb_str_str | exact Ur.kb_str_list | exact Ur.kb_str_tuple | exact Ur.kb_str_dict | exact Ur.kb_NoneType_int | exact Ur.kb_NoneType_bool | exact Ur.kb_NoneType_str | exact Ur.kb_NoneType_list | exact Ur.kb_NoneType_tuple | exact Ur.kb_NoneType_dict | exact Ur.kb_list_int | exact Ur.kb_list_bool | exact Ur.kb_list_str | exact Ur.kb_list_list | exact Ur.kb_list_tuple | exact Ur.kb_list_dict | exact Ur.kb_tuple_int | exact Ur.kb_tuple_bool | exact Ur.kb_tuple_str | exact Ur.kb_tuple_list | exact Ur.kb_tuple_tuple | exact Ur.kb_tuple_dict | exact Ur.kb_dict_int | exact Ur.kb_dict_bool | exact Ur.kb_dict_str | exact Ur.kb_dict_list | exact Ur.kb_dict_tuple | exact Ur.kb_dict_dict)))
  | ((with_reducible apply Ur.isiK); (focus (with_reducible assumption)); (focus (with_reducible assumption)))
  | ((with_reducible apply Ur.isK1); (focus kct_strs); (focus (with_reducible assumption)); (focus (with_reducible assumption)))
  | ((with_reducible apply Ur.isKT); (focus kct_strs); (focus (with_reducible assumption)); (focus (with_reducible assumption)))
  | ((with_reducible apply Ur.isK2); (focus kct_strs); (focus (with_reducible assumption)); (focus (with_reducible assumption)); (focus kct_strs); (focus rfl))
  | (with_reducible refine Ur.isN_ref ?_)
  | ((with_reducible apply Ur.isX1); (focus (with_reducible assumption)); (focus (with_reducible assumption)))
  | ((with_reducible apply Ur.isXT); (focus (with_reducible assumption)); (focus (with_reducible assumption)))
  | ((with_reducible apply Ur.isX2); (focus (with_reducible assumption)); (focus (with_reducible assumption)); (focus kct_strs); (focus rfl))
  | ((with_reducible apply Ur.rEq_kinds); (focus kct_strs); (focus kct_strs))
  | ((with_reducible apply Ur.len_ints); (focus kct_strs))
  | ((with_reducible apply Ur.len_refs); (focus kct_strs))
  | ((with_reducible apply Ur.in_int); (focus kct_strs))
  | ((with_reducible apply Ur.notin_int); (focus kct_strs))
  | ((with_reducible apply Ur.setd_int); (focus kct_strs))
  | ((with_reducible apply Ur.repr_pair); (focus kct_strs))
  | ((with_reducible apply Ur.pop1_int); (focus kct_strs); (focus assumption))
  | ((with_reducible apply Ur.index_int); (focus kct_strs))
  | ((with_reducible apply Ur.rEq_intsN); (focus kct_strs); (focus kct_strs))
  | ((with_reducible apply Ur.rNe_intsN); (focus kct_strs); (focus kct_strs))
  | ((with_reducible apply Ur.rEq_ints); (focus kct_strs); (focus kct_strs))
  | ((with_reducible apply Ur.rNe_ints); (focus kct_strs); (focus kct_strs))
  | (with_reducible refine Ur.noN ?_)
  | (with_reducible refine Ur.noNn ?_)
  | ((with_reducible refine Ur.brT ?_ ?_); (focus omega))
  | ((with_reducible refine Ur.brF ?_ ?_); (focus omega))
  | ((with_reducible refine Ur.brnT ?_ ?_); (focus omega))
  | ((with_reducible refine Ur.brnF ?_ ?_); (focus omega))
  | (refine And.intro ?_ ?_; (first | (focus tb_rel) | rotate_left 1))
  | refine Or.inl ⟨_, rfl, ?_⟩
  | refine Or.inr ⟨_, rfl, ?_⟩
  | ((fail_if_success (with_reducible show L2.rEqD _ _ _ _ _)); (fail_if_success (with_reducible show L2.rNeD _ _ _ _ _)); (fail_if_success (with_reducible show Ur.rRepr _ _ _ _)); (fail_if_success (with_reducible show Ur.rEqL _ _ _ _ _ _)); (fail_if_success (refine Ur.isWN ?_)); (fail_if_success (refine Ur.isW4 ?_)); apply Exists.intro)))
local macro_rules | `(tactic| kqd_all) => `(tactic| repeat (first
  | (with_reducible refine Ur.tCi ?_)
  | (with_reducible refine Ur.tNilI ?_)
  | (with_reducible refine L2.iteF ?_)
  | (with_reducible refine L2.iteT ?_)
  | (with_reducible refine Ur.neg_same ?_)
  | (with_reducible refine Ur.pos_same ?_)
  | ((with_reducible apply Ur.isiK); (focus (first | exact Ur.tyx_int | exact Ur.tyx_bl | exact Ur.tyx_non | exact Ur.tyx_str | exact Ur.tyx_lst (by kct_strs) | exact Ur.tyx_tup (by kct_strs) | exact Ur.tyx_dK (by kct_strs))); (focus (first | exact Ur.kb_int_int | exact Ur.kb_int_bool | exact Ur.kb_int_str | exact Ur.kb_int_list | exact Ur.kb_int_tuple | exact Ur.kb_int_dict | exact Ur.kb_bool_int | exact Ur.kb_bool_bool | exact Ur.kb_bool_str | exact Ur.kb_bool_list | exact Ur.kb_bool_tuple | exact Ur.kb_bool_dict | exact Ur.kb_str_int | exact Ur.kb_str_bool | exact Ur.kb_str_str | exact Ur.kb_str_list | exact Ur.kb_str_tuple | exact Ur.kb_str_dict | exact Ur.kb_NoneType_int | exact Ur.kb_NoneType_bool | exact Ur.kb_NoneType_str | exact Ur.kb_NoneType_list | exact Ur.kb_NoneType_tuple | exact Ur.kb_NoneType_dict | exact Ur.kb_list_int | exact Ur.kb_list_bool | exact Ur.kb_list_str | exact Ur.kb_list_list | exact Ur.kb_list_tuple | exact Ur.kb_list_dict | exact Ur.kb_tuple_int | exact Ur.kb_tuple_bool | exact Ur.kb_tuple_str | exact Ur.kb_tuple_list | exact Ur.kb_tuple_tuple | exact Ur.kb_tuple_dict | exact Ur.kb_dict_int | exact Ur.kb_dict_bool | exact Ur.kb_dict_str | exact Ur.kb_dict_list | exact Ur.kb_dict_tuple | exact Ur.kb_dict_dict)))
  | ((with_reducible apply Ur.isiK); (focus (with_reducible assumption)); (focus (with_reducible assumption)))
  | ((with_reducible apply Ur.isK1); (focus kct_strs); (focus (with_reducible assumption)); (focus (with_reducible assumption)))
  | ((with_reducible apply Ur.isKT); (focus kct_strs); (focus (with_reducible assumption)); (focus (with_reducible assumption)))
  | ((with_reducible apply Ur.isK2); (focus kct_strs); (focus (with_reducible assumption)); (focus (with_reducible assumption)); (focus kct_strs); (focus rfl))
  | (with_reducible refine Ur.isN_ref ?_)
  | ((with_reducible apply Ur.isX1); (focus (with_reducible assumption)); (focus (with_reducible assumption)))
  | ((with_reducible apply Ur.isXT); (focus (with_reducible assumption)); (focus (with_reducible assumption)))
  | ((with_reducible apply Ur.isX2); (focus (with_reducible assumption)); (focus (with_reducible assumption)); (focus kct_strs); (focus rfl))
  | ((with_reducible apply Ur.rEq_kinds); (focus kct_strs); (focus kct_strs))
  | ((with_reducible apply Ur.len_ints); (focus kct_strs))
  | ((with_reducible apply Ur.len_refs); (focus kct_strs))
  | ((with_reducible apply Ur.in_int); (focus kct_strs))
  | ((with_reducible apply Ur.notin_int); (focus kct_strs))
  | ((with_reducible apply Ur.setd_int); (focus kct_strs))
  | ((with_reducible apply Ur.repr_pair); (focus kct_strs))
  | ((with_reducible apply Ur.pop1_int); (focus kct_strs); (focus assumption))
  | ((with_reducible apply Ur.index_int); (focus kct_strs))
  | ((with_reducible apply Ur.rEq_intsN); (focus kct_strs); (focus kct_strs))
  | ((with_reducible apply Ur.rNe_intsN); (focus kct_strs); (focus kct_strs))
  | ((with_reducible apply Ur.rEq_ints); (focus kct_strs); (focus kct_strs))
  | ((with_reducible apply Ur.rNe_ints); (focus kct_strs); (focus kct_strs))
  | (with_reducible refine Ur.noN ?_)
  | (with_reducible refine Ur.noNn ?_)
  | ((with_reducible refine Ur.brT ?_ ?_); (focus omega))
  | ((with_reducible refine Ur.brF ?_ ?_); (focus omega))
  | ((with_reducible refine Ur.brnT ?_ ?_); (focus omega))
  | ((with_reducible refine Ur.brnF ?_ ?_); (focus omega))
  | (refine And.intro ?_ ?_; (first | (focus tb_rel) | rotate_left 1))
  | refine Or.inl ⟨_, rfl, ?_⟩
  | refine Or.inr ⟨_, rfl, ?_⟩
  | ((fail_if_success (with_reducible show L2.rEqD _ _ _ _ _)); (fail_if_success (with_reducible show L2.rNeD _ _ _ _ _)); (fail_if_success (with_reducible show Ur.rRepr _ _ _ _)); (fail_if_success (with_reducible show Ur.rEqL _ _ _ _ _ _)); (fail_if_success (refine Ur.isWN ?_)); (fail_if_success (refine Ur.isW4 ?_)); apply Exists.intro)
  | intro _))
local macro_rules | `(tactic| kcj_in) => `(tactic| first
  | (with_reducible exact L2.Same.refl _)
  | (with_reducible assumption)
  | ((with_reducible apply Ur.same_snoc); (focus (with_reducible assumption)); kcj_in)
  | ((with_reducible apply Ur.same_upd'); (focus cc_off); kcj_in)
  | ((with_reducible apply Ur.same_step); (focus (with_reducible assumption)); kcj_in)
  | ((with_reducible apply Ur.same_pairs); (focus (with_reducible assumption)); kcj_in)
  | ((with_reducible apply Ur.same_but); (focus (with_reducible assumption)); (focus cc_off); kcj_in))
local macro_rules | `(tactic| cc_off) => `(tactic| first
  | (with_reducible assumption)
  | ((with_reducible apply Ur.same_free); (focus (with_reducible assumption)); kcj_in)
  | ((with_reducible apply Ur.but_free); (focus (with_reducible assumption)); (focus cc_are); kct_strs))
local macro_rules | `(tactic| cc_are) => `(tactic| first
  | (with_reducible exact Ur.but_refl)
  | (with_reducible assumption)
  | ((with_reducible apply Ur.but_at); cc_are)
  | ((with_reducible apply Ur.but_snoc); (focus (with_reducible assumption)); cc_are)
  | ((with_reducible apply Ur.but_upd); (focus cc_off); cc_are)
  | ((with_reducible apply Ur.but_step); (focus (with_reducible assumption)); cc_are)
  | ((with_reducible apply Ur.but_step'); (focus (with_reducible assumption)); cc_are))
local macro_rules | `(tactic| kqd_in) => `(tactic| (kqd_all; try ((first | refine Ur.bri (fun _ => ?_) (fun _ => ?_) | refine Ur.brni (fun _ => ?_) (fun _ => ?_) | refine Ur.br (fun _ => ?_) (fun _ => ?_) | refine Ur.brn (fun _ => ?_) (fun _ => ?_) | refine Ur.brb (fun _ => ?_) (fun _ => ?_)) <;> kqd_in)))
namespace Ur
open PySem L2
def top (i : Nat) : Stmt := PySem.Challenge.pw_unlikerow_k50_no_places_of_live_rows.main.body.getD i (.Pass ⟨0, 0, 0, 0⟩)
abbrev s_Live___init__ : Stmt := inClass (top 16) 0
theorem sc_Live___init__ : FnScope ["self", "row"] ["self", "row"] (defScope s_Live___init__) := ⟨rfl, rfl, rfl, by decide +kernel, rfl, by decide +kernel, by decide +kernel⟩
abbrev s_Live_row : Stmt := inClass (top 16) 8
theorem sc_Live_row : FnScope ["self"] ["self"] (defScope s_Live_row) := ⟨rfl, rfl, rfl, by decide +kernel, rfl, by decide +kernel, by decide +kernel⟩
abbrev s_Live_laid : Stmt := inClass (top 16) 2
theorem sc_Live_laid : FnScope ["self", "place", "many", "numbers", "gone"] ["self", "place", "many", "numbers"] (defScope s_Live_laid) := ⟨rfl, rfl, rfl, by decide +kernel, rfl, by decide +kernel, by decide +kernel⟩
abbrev s_Live_undo : Stmt := inClass (top 16) 7
theorem sc_Live_undo : FnScope ["self", "place", "many", "numbers"] ["self"] (defScope s_Live_undo) := ⟨rfl, rfl, rfl, by decide +kernel, rfl, by decide +kernel, by decide +kernel⟩
abbrev s__law_number : Stmt := top 20
theorem sc__law_number : FnScope ["kind", "k"] ["kind", "k"] (defScope s__law_number) := ⟨rfl, rfl, rfl, by decide +kernel, rfl, by decide +kernel, by decide +kernel⟩
abbrev s__law_take : Stmt := top 19
theorem sc__law_take : FnScope ["draws", "many"] ["draws", "many"] (defScope s__law_take) := ⟨rfl, rfl, rfl, by decide +kernel, rfl, by decide +kernel, by decide +kernel⟩
abbrev s__law_any : Stmt := top 28
theorem sc__law_any : FnScope ["draws"] ["draws"] (defScope s__law_any) := ⟨rfl, rfl, rfl, by decide +kernel, rfl, by decide +kernel, by decide +kernel⟩
abbrev s__law_deep : Stmt := top 31
theorem sc__law_deep : FnScope ["many", "found", "k"] ["many"] (defScope s__law_deep) := ⟨rfl, rfl, rfl, by decide +kernel, rfl, by decide +kernel, by decide +kernel⟩
abbrev s__law_bad_place : Stmt := top 32
theorem sc__law_bad_place : FnScope ["draws", "long", "put", "some"] ["draws", "long", "put"] (defScope s__law_bad_place) := ⟨rfl, rfl, rfl, by decide +kernel, rfl, by decide +kernel, by decide +kernel⟩
abbrev s__law_bad_window : Stmt := top 33
theorem sc__law_bad_window : FnScope ["draws", "long", "odd", "some"] ["draws", "long"] (defScope s__law_bad_window) := ⟨rfl, rfl, rfl, by decide +kernel, rfl, by decide +kernel, by decide +kernel⟩
abbrev s_Live_need_place : Stmt := inClass (top 16) 1
theorem sc_Live_need_place : FnScope ["self", "place", "most"] ["self", "place", "most"] (defScope s_Live_need_place) := ⟨rfl, rfl, rfl, by decide +kernel, rfl, by decide +kernel, by decide +kernel⟩
abbrev s_Live_noted : Stmt := inClass (top 16) 3
theorem sc_Live_noted : FnScope ["self", "place", "many", "numbers", "gone"] ["self", "place", "many", "numbers"] (defScope s_Live_noted) := ⟨rfl, rfl, rfl, by decide +kernel, rfl, by decide +kernel, by decide +kernel⟩
abbrev s_Live_change : Stmt := inClass (top 16) 4
theorem sc_Live_change : FnScope ["self", "place", "number"] ["self", "place", "number"] (defScope s_Live_change) := ⟨rfl, rfl, rfl, by decide +kernel, rfl, by decide +kernel, by decide +kernel⟩
abbrev s_last_places : Stmt := top 11
theorem sc_last_places : FnScope ["row", "met", "found", "place", "number"] ["row"] (defScope s_last_places) := ⟨rfl, rfl, rfl, by decide +kernel, rfl, by decide +kernel, by decide +kernel⟩
abbrev s_next_places : Stmt := top 12
theorem sc_next_places : FnScope ["row", "found", "place", "last"] ["row"] (defScope s_next_places) := ⟨rfl, rfl, rfl, by decide +kernel, rfl, by decide +kernel, by decide +kernel⟩
abbrev s_Ready___init__ : Stmt := inClass (top 14) 0
theorem sc_Ready___init__ : FnScope ["self", "row"] ["self", "row"] (defScope s_Ready___init__) := ⟨rfl, rfl, rfl, by decide +kernel, rfl, by decide +kernel, by decide +kernel⟩
abbrev s_Live_ready : Stmt := inClass (top 16) 9
theorem sc_Live_ready : FnScope ["self"] ["self"] (defScope s_Live_ready) := ⟨rfl, rfl, rfl, by decide +kernel, rfl, by decide +kernel, by decide +kernel⟩
abbrev s_is_whole : Stmt := top 10
theorem sc_is_whole : FnScope ["thing"] ["thing"] (defScope s_is_whole) := ⟨rfl, rfl, rfl, by decide +kernel, rfl, by decide +kernel, by decide +kernel⟩
abbrev s_Ready_need_place : Stmt := inClass (top 14) 1
theorem sc_Ready_need_place : FnScope ["self", "place"] ["self", "place"] (defScope s_Ready_need_place) := ⟨rfl, rfl, rfl, by decide +kernel, rfl, by decide +kernel, by decide +kernel⟩
abbrev s_Ready_need_window : Stmt := inClass (top 14) 2
theorem sc_Ready_need_window : FnScope ["self", "first", "behind"] ["self", "first", "behind"] (defScope s_Ready_need_window) := ⟨rfl, rfl, rfl, by decide +kernel, rfl, by decide +kernel, by decide +kernel⟩
abbrev s_Ready_firsts : Stmt := inClass (top 14) 4
theorem sc_Ready_firsts : FnScope ["self", "first", "behind", "place"] ["self", "first", "behind"] (defScope s_Ready_firsts) := ⟨rfl, rfl, rfl, by decide +kernel, rfl, by decide +kernel, by decide +kernel⟩
abbrev s_Live_firsts : Stmt := inClass (top 16) 11
theorem sc_Live_firsts : FnScope ["self", "first", "behind"] ["self", "first", "behind"] (defScope s_Live_firsts) := ⟨rfl, rfl, rfl, by decide +kernel, rfl, by decide +kernel, by decide +kernel⟩
abbrev s_Live_put : Stmt := inClass (top 16) 5
theorem sc_Live_put : FnScope ["self", "place", "number"] ["self", "place", "number"] (defScope s_Live_put) := ⟨rfl, rfl, rfl, by decide +kernel, rfl, by decide +kernel, by decide +kernel⟩
abbrev s_Live_take : Stmt := inClass (top 16) 6
theorem sc_Live_take : FnScope ["self", "place"] ["self", "place"] (defScope s_Live_take) := ⟨rfl, rfl, rfl, by decide +kernel, rfl, by decide +kernel, by decide +kernel⟩
abbrev s_Ready_unlike : Stmt := inClass (top 14) 3
theorem sc_Ready_unlike : FnScope ["self", "first", "behind", "last"] ["self", "first", "behind"] (defScope s_Ready_unlike) := ⟨rfl, rfl, rfl, by decide +kernel, rfl, by decide +kernel, by decide +kernel⟩
abbrev s_Live_unlike : Stmt := inClass (top 16) 10
theorem sc_Live_unlike : FnScope ["self", "first", "behind"] ["self", "first", "behind"] (defScope s_Live_unlike) := ⟨rfl, rfl, rfl, by decide +kernel, rfl, by decide +kernel, by decide +kernel⟩
abbrev s__law_caught : Stmt := top 30
theorem sc__law_caught : FnScope ["live", "way", "one", "other", "which", "e", "kinds", "others"] ["live", "way", "one", "other"] (defScope s__law_caught) := ⟨rfl, rfl, rfl, by decide +kernel, rfl, by decide +kernel, by decide +kernel⟩
abbrev s__law_whole : Stmt := top 22
theorem sc__law_whole : FnScope ["thing"] ["thing"] (defScope s__law_whole) := ⟨rfl, rfl, rfl, by decide +kernel, rfl, by decide +kernel, by decide +kernel⟩
abbrev s__law_deed : Stmt := top 29
theorem sc__law_deed : FnScope ["draws", "live", "state", "row", "pile", "way", "due", "kept", "place", "number", "found"] ["draws", "live", "state"] (defScope s__law_deed) := ⟨rfl, rfl, rfl, by decide +kernel, rfl, by decide +kernel, by decide +kernel⟩
abbrev s__law_draws : Stmt := top 18
theorem sc__law_draws : FnScope ["script", "draws", "k", "rest", "stir", "many"] ["script"] (defScope s__law_draws) := ⟨rfl, rfl, rfl, by decide +kernel, rfl, by decide +kernel, by decide +kernel⟩
abbrev s__law_row : Stmt := top 21
theorem sc__law_row : FnScope ["draws", "most", "many", "kind", "base", "one", "other", "k"] ["draws", "most"] (defScope s__law_row) := ⟨rfl, rfl, rfl, by decide +kernel, rfl, by decide +kernel, by decide +kernel⟩
abbrev s__law_firsts : Stmt := top 25
theorem sc__law_firsts : FnScope ["row", "first", "behind", "seen", "found", "place"] ["row", "first", "behind"] (defScope s__law_firsts) := ⟨rfl, rfl, rfl, by decide +kernel, rfl, by decide +kernel, by decide +kernel⟩
abbrev s__law_window_right : Stmt := top 27
theorem sc__law_window_right : FnScope ["live", "row", "first", "behind", "due", "found", "many"] ["live", "row", "first", "behind"] (defScope s__law_window_right) := ⟨rfl, rfl, rfl, by decide +kernel, rfl, by decide +kernel, by decide +kernel⟩
abbrev s_law : Stmt := top 34
theorem sc_law : FnScope ["script", "draws", "row", "live", "state", "many", "k", "way", "one", "other", "rows"] ["script"] (defScope s_law) := ⟨rfl, rfl, rfl, by decide +kernel, rfl, by decide +kernel, by decide +kernel⟩
/-- where the defs and classes stand -/
structure Adr where
  f_Live___init__ : Addr
  d_Live___init__ : FuncData
  f_Live_row : Addr
  d_Live_row : FuncData
  f_Live_laid : Addr
  d_Live_laid : FuncData
  f_Live_undo : Addr
  d_Live_undo : FuncData
  f__law_number : Addr
  d__law_number : FuncData
  f__law_take : Addr
  d__law_take : FuncData
  f__law_any : Addr
  d__law_any : FuncData
  f__law_deep : Addr
  d__law_deep : FuncData
  f__law_bad_place : Addr
  d__law_bad_place : FuncData
  f__law_bad_window : Addr
  d__law_bad_window : FuncData
  f_Live_need_place : Addr
  d_Live_need_place : FuncData
  f_Live_noted : Addr
  d_Live_noted : FuncData
  f_Live_change : Addr
  d_Live_change : FuncData
  f_last_places : Addr
  d_last_places : FuncData
  f_next_places : Addr
  d_next_places : FuncData
  f_Ready___init__ : Addr
  d_Ready___init__ : FuncData
  f_Live_ready : Addr
  d_Live_ready : FuncData
  f_is_whole : Addr
  d_is_whole : FuncData
  f_Ready_need_place : Addr
  d_Ready_need_place : FuncData
  f_Ready_need_window : Addr
  d_Ready_need_window : FuncData
  f_Ready_firsts : Addr
  d_Ready_firsts : FuncData
  f_Live_firsts : Addr
  d_Live_firsts : FuncData
  f_Live_put : Addr
  d_Live_put : FuncData
  f_Live_take : Addr
  d_Live_take : FuncData
  f_Ready_unlike : Addr
  d_Ready_unlike : FuncData
  f_Live_unlike : Addr
  d_Live_unlike : FuncData
  f__law_caught : Addr
  d__law_caught : FuncData
  f__law_whole : Addr
  d__law_whole : FuncData
  f__law_deed : Addr
  d__law_deed : FuncData
  f__law_draws : Addr
  d__law_draws : FuncData
  f__law_row : Addr
  d__law_row : FuncData
  f__law_firsts : Addr
  d__law_firsts : FuncData
  f__law_window_right : Addr
  d__law_window_right : FuncData
  f_law : Addr
  d_law : FuncData
  c_Live : Addr
  c_NoPlace : Addr
  c_Ready : Addr
  c_NoWindow : Addr
  c_RowError : Addr
  c_NoCommand : Addr
  c_NoNeeds : Addr
  c_NoRow : Addr
  c_NoTable : Addr
structure Txt (K : PySem.W.Frag) (mg : Str → Option Value) (A : Adr) : Prop where
  F_Live___init__ : Fun K "__init__" "Live.__init__" s_Live___init__ A.f_Live___init__ A.d_Live___init__
  b_Live___init__ : Binds K A.d_Live___init__ ["self", "row"] []
  M_Live : Mk K A.c_Live A.f_Live___init__
  F_Live_row : Fun K "row" "Live.row" s_Live_row A.f_Live_row A.d_Live_row
  b_Live_row : Binds K A.d_Live_row ["self"] []
  M_Live_row : Meth K A.c_Live "row" A.f_Live_row
  F_Live_laid : Fun K "laid" "Live.laid" s_Live_laid A.f_Live_laid A.d_Live_laid
  b_Live_laid : Binds K A.d_Live_laid ["self", "place", "many", "numbers"] []
  M_Live_laid : Meth K A.c_Live "laid" A.f_Live_laid
  F_Live_undo : Fun K "undo" "Live.undo" s_Live_undo A.f_Live_undo A.d_Live_undo
  b_Live_undo : Binds K A.d_Live_undo ["self"] []
  M_Live_undo : Meth K A.c_Live "undo" A.f_Live_undo
  F__law_number : Fun K "_law_number" "_law_number" s__law_number A.f__law_number A.d__law_number
  b__law_number : Binds K A.d__law_number ["kind", "k"] []
  g__law_number : mg "_law_number" = some (.ref A.f__law_number)
  F__law_take : Fun K "_law_take" "_law_take" s__law_take A.f__law_take A.d__law_take
  b__law_take : Binds K A.d__law_take ["draws", "many"] []
  g__law_take : mg "_law_take" = some (.ref A.f__law_take)
  F__law_any : Fun K "_law_any" "_law_any" s__law_any A.f__law_any A.d__law_any
  b__law_any : Binds K A.d__law_any ["draws"] []
  g__law_any : mg "_law_any" = some (.ref A.f__law_any)
  F__law_deep : Fun K "_law_deep" "_law_deep" s__law_deep A.f__law_deep A.d__law_deep
  b__law_deep : Binds K A.d__law_deep ["many"] []
  g__law_deep : mg "_law_deep" = some (.ref A.f__law_deep)
  F__law_bad_place : Fun K "_law_bad_place" "_law_bad_place" s__law_bad_place A.f__law_bad_place A.d__law_bad_place
  b__law_bad_place : Binds K A.d__law_bad_place ["draws", "long", "put"] []
  g__law_bad_place : mg "_law_bad_place" = some (.ref A.f__law_bad_place)
  F__law_bad_window : Fun K "_law_bad_window" "_law_bad_window" s__law_bad_window A.f__law_bad_window A.d__law_bad_window
  b__law_bad_window : Binds K A.d__law_bad_window ["draws", "long"] []
  g__law_bad_window : mg "_law_bad_window" = some (.ref A.f__law_bad_window)
  F_Live_need_place : Fun K "need_place" "Live.need_place" s_Live_need_place A.f_Live_need_place A.d_Live_need_place
  b_Live_need_place : Binds K A.d_Live_need_place ["self", "place", "most"] []
  M_Live_need_place : Meth K A.c_Live "need_place" A.f_Live_need_place
  F_Live_noted : Fun K "noted" "Live.noted" s_Live_noted A.f_Live_noted A.d_Live_noted
  b_Live_noted : Binds K A.d_Live_noted ["self", "place", "many", "numbers"] []
  M_Live_noted : Meth K A.c_Live "noted" A.f_Live_noted
  F_Live_change : Fun K "change" "Live.change" s_Live_change A.f_Live_change A.d_Live_change
  b_Live_change : Binds K A.d_Live_change ["self", "place", "number"] []
  M_Live_change : Meth K A.c_Live "change" A.f_Live_change
  F_last_places : Fun K "last_places" "last_places" s_last_places A.f_last_places A.d_last_places
  b_last_places : Binds K A.d_last_places ["row"] []
  g_last_places : mg "last_places" = some (.ref A.f_last_places)
  F_next_places : Fun K "next_places" "next_places" s_next_places A.f_next_places A.d_next_places
  b_next_places : Binds K A.d_next_places ["row"] []
  g_next_places : mg "next_places" = some (.ref A.f_next_places)
  F_Ready___init__ : Fun K "__init__" "Ready.__init__" s_Ready___init__ A.f_Ready___init__ A.d_Ready___init__
  b_Ready___init__ : Binds K A.d_Ready___init__ ["self", "row"] []
  M_Ready : Mk K A.c_Ready A.f_Ready___init__
  F_Live_ready : Fun K "ready" "Live.ready" s_Live_ready A.f_Live_ready A.d_Live_ready
  b_Live_ready : Binds K A.d_Live_ready ["self"] []
  M_Live_ready : Meth K A.c_Live "ready" A.f_Live_ready
  F_is_whole : Fun K "is_whole" "is_whole" s_is_whole A.f_is_whole A.d_is_whole
  b_is_whole : Binds K A.d_is_whole ["thing"] []
  g_is_whole : mg "is_whole" = some (.ref A.f_is_whole)
  F_Ready_need_place : Fun K "need_place" "Ready.need_place" s_Ready_need_place A.f_Ready_need_place A.d_Ready_need_place
  b_Ready_need_place : Binds K A.d_Ready_need_place ["self", "place"] []
  M_Ready_need_place : Meth K A.c_Ready "need_place" A.f_Ready_need_place
  F_Ready_need_window : Fun K "need_window" "Ready.need_window" s_Ready_need_window A.f_Ready_need_window A.d_Ready_need_window
  b_Ready_need_window : Binds K A.d_Ready_need_window ["self", "first", "behind"] []
  M_Ready_need_window : Meth K A.c_Ready "need_window" A.f_Ready_need_window
  F_Ready_firsts : Fun K "firsts" "Ready.firsts" s_Ready_firsts A.f_Ready_firsts A.d_Ready_firsts
  b_Ready_firsts : Binds K A.d_Ready_firsts ["self", "first", "behind"] []
  M_Ready_firsts : Meth K A.c_Ready "firsts" A.f_Ready_firsts
  F_Live_firsts : Fun K "firsts" "Live.firsts" s_Live_firsts A.f_Live_firsts A.d_Live_firsts
  b_Live_firsts : Binds K A.d_Live_firsts ["self", "first", "behind"] []
  M_Live_firsts : Meth K A.c_Live "firsts" A.f_Live_firsts
  F_Live_put : Fun K "put" "Live.put" s_Live_put A.f_Live_put A.d_Live_put
  b_Live_put : Binds K A.d_Live_put ["self", "place", "number"] []
  M_Live_put : Meth K A.c_Live "put" A.f_Live_put
  F_Live_take : Fun K "take" "Live.take" s_Live_take A.f_Live_take A.d_Live_take
  b_Live_take : Binds K A.d_Live_take ["self", "place"] []
  M_Live_take : Meth K A.c_Live "take" A.f_Live_take
  F_Ready_unlike : Fun K "unlike" "Ready.unlike" s_Ready_unlike A.f_Ready_unlike A.d_Ready_unlike
  b_Ready_unlike : Binds K A.d_Ready_unlike ["self", "first", "behind"] []
  M_Ready_unlike : Meth K A.c_Ready "unlike" A.f_Ready_unlike
  F_Live_unlike : Fun K "unlike" "Live.unlike" s_Live_unlike A.f_Live_unlike A.d_Live_unlike
  b_Live_unlike : Binds K A.d_Live_unlike ["self", "first", "behind"] []
  M_Live_unlike : Meth K A.c_Live "unlike" A.f_Live_unlike
  F__law_caught : Fun K "_law_caught" "_law_caught" s__law_caught A.f__law_caught A.d__law_caught
  b__law_caught : Binds K A.d__law_caught ["live", "way", "one", "other"] []
  g__law_caught : mg "_law_caught" = some (.ref A.f__law_caught)
  F__law_whole : Fun K "_law_whole" "_law_whole" s__law_whole A.f__law_whole A.d__law_whole
  b__law_whole : Binds K A.d__law_whole ["thing"] []
  g__law_whole : mg "_law_whole" = some (.ref A.f__law_whole)
  F__law_deed : Fun K "_law_deed" "_law_deed" s__law_deed A.f__law_deed A.d__law_deed
  b__law_deed : Binds K A.d__law_deed ["draws", "live", "state"] []
  g__law_deed : mg "_law_deed" = some (.ref A.f__law_deed)
  F__law_draws : Fun K "_law_draws" "_law_draws" s__law_draws A.f__law_draws A.d__law_draws
  b__law_draws : Binds K A.d__law_draws ["script"] []
  g__law_draws : mg "_law_draws" = some (.ref A.f__law_draws)
  F__law_row : Fun K "_law_row" "_law_row" s__law_row A.f__law_row A.d__law_row
  b__law_row : Binds K A.d__law_row ["draws", "most"] []
  g__law_row : mg "_law_row" = some (.ref A.f__law_row)
  F__law_firsts : Fun K "_law_firsts" "_law_firsts" s__law_firsts A.f__law_firsts A.d__law_firsts
  b__law_firsts : Binds K A.d__law_firsts ["row", "first", "behind"] []
  g__law_firsts : mg "_law_firsts" = some (.ref A.f__law_firsts)
  F__law_window_right : Fun K "_law_window_right" "_law_window_right" s__law_window_right A.f__law_window_right A.d__law_window_right
  b__law_window_right : Binds K A.d__law_window_right ["live", "row", "first", "behind"] []
  g__law_window_right : mg "_law_window_right" = some (.ref A.f__law_window_right)
  F_law : Fun K "law" "law" s_law A.f_law A.d_law
  b_law : Binds K A.d_law ["script"] []
  g_law : mg "law" = some (.ref A.f_law)
  g_Live : mg "Live" = some (.ref A.c_Live)
  C_Live : Cls K A.c_Live
  n_Live_numbers : NoAttr K A.c_Live "numbers"
  n_Live_changes : NoAttr K A.c_Live "changes"
  n_Live_made : NoAttr K A.c_Live "made"
  g_NoPlace : mg "NoPlace" = some (.ref A.c_NoPlace)
  g_Ready : mg "Ready" = some (.ref A.c_Ready)
  C_Ready : Cls K A.c_Ready
  n_Ready_many : NoAttr K A.c_Ready "many"
  n_Ready_lasts : NoAttr K A.c_Ready "lasts"
  n_Ready_nexts : NoAttr K A.c_Ready "nexts"
  g_NoWindow : mg "NoWindow" = some (.ref A.c_NoWindow)
  g_RowError : mg "RowError" = some (.ref A.c_RowError)
  g_NoCommand : mg "NoCommand" = some (.ref A.c_NoCommand)
  g_NoNeeds : mg "NoNeeds" = some (.ref A.c_NoNeeds)
  g_NoRow : mg "NoRow" = some (.ref A.c_NoRow)
  g_NoTable : mg "NoTable" = some (.ref A.c_NoTable)
  m_ValueError : mg "ValueError" = none
  m_abs : mg "abs" = none
  m_bool : mg "bool" = none
  m_enumerate : mg "enumerate" = none
  m_int : mg "int" = none
  m_isinstance : mg "isinstance" = none
  m_len : mg "len" = none
  m_list : mg "list" = none
  m_min : mg "min" = none
  m_range : mg "range" = none
  x_NoPlace : PySem.W.excIn K A.c_NoPlace [.type "ValueError", .type "Exception", .type "BaseException", .type "object"] "ValueError.__new__" = true
  k_NoPlace : PySem.W.keepIn K (.ref A.c_NoPlace) = true
  x_NoWindow : PySem.W.excIn K A.c_NoWindow [.type "ValueError", .type "Exception", .type "BaseException", .type "object"] "ValueError.__new__" = true
  k_NoWindow : PySem.W.keepIn K (.ref A.c_NoWindow) = true
  b_NoPlace : PySem.W.subIn K (.ref A.c_NoPlace) (.type "BaseException") = some true
  t_NoPlace : PySem.W.typeIn K (.ref A.c_NoPlace) = some (.type "type")
  h_NoPlace : PySem.W.hasDictIn K A.c_NoPlace = true
  b_NoWindow : PySem.W.subIn K (.ref A.c_NoWindow) (.type "BaseException") = some true
  t_NoWindow : PySem.W.typeIn K (.ref A.c_NoWindow) = some (.type "type")
  h_NoWindow : PySem.W.hasDictIn K A.c_NoWindow = true
  b_RowError : PySem.W.subIn K (.ref A.c_RowError) (.type "BaseException") = some true
  t_RowError : PySem.W.typeIn K (.ref A.c_RowError) = some (.type "type")
  h_RowError : PySem.W.hasDictIn K A.c_RowError = true
  s_NoPlace_RowError : PySem.W.subIn K (.ref A.c_NoPlace) (.ref A.c_RowError) = some true
  q_NoPlace_NoPlace : PySem.W.kitOne K (.ref A.c_NoPlace) (.ref A.c_NoPlace) = some true
  q_NoPlace_NoWindow : PySem.W.kitOne K (.ref A.c_NoPlace) (.ref A.c_NoWindow) = some false
  q_NoPlace_NoCommand : PySem.W.kitOne K (.ref A.c_NoPlace) (.ref A.c_NoCommand) = some false
  q_NoPlace_NoNeeds : PySem.W.kitOne K (.ref A.c_NoPlace) (.ref A.c_NoNeeds) = some false
  q_NoPlace_NoRow : PySem.W.kitOne K (.ref A.c_NoPlace) (.ref A.c_NoRow) = some false
  q_NoPlace_NoTable : PySem.W.kitOne K (.ref A.c_NoPlace) (.ref A.c_NoTable) = some false
  q_NoPlace_ValueError : PySem.W.kitOne K (.ref A.c_NoPlace) (.type "ValueError") = some true
  Ehg_NoPlace : PySem.W.findIn K (.ref A.c_NoPlace) "__getattribute__" = some (some (.builtin "BaseException.__getattribute__"))
  Ehk_NoPlace : PySem.W.findIn K (.ref A.c_NoPlace) "__getattr__" = some none
  Eha_NoPlace : PySem.W.findIn K (.ref A.c_NoPlace) "__class__" = some (some (.builtin "object.__class__"))
  Ehm_NoPlace : PySem.W.mroIn K A.c_NoPlace (.type "object") = some true
  s_NoWindow_RowError : PySem.W.subIn K (.ref A.c_NoWindow) (.ref A.c_RowError) = some true
  q_NoWindow_NoPlace : PySem.W.kitOne K (.ref A.c_NoWindow) (.ref A.c_NoPlace) = some false
  q_NoWindow_NoWindow : PySem.W.kitOne K (.ref A.c_NoWindow) (.ref A.c_NoWindow) = some true
  q_NoWindow_NoCommand : PySem.W.kitOne K (.ref A.c_NoWindow) (.ref A.c_NoCommand) = some false
  q_NoWindow_NoNeeds : PySem.W.kitOne K (.ref A.c_NoWindow) (.ref A.c_NoNeeds) = some false
  q_NoWindow_NoRow : PySem.W.kitOne K (.ref A.c_NoWindow) (.ref A.c_NoRow) = some false
  q_NoWindow_NoTable : PySem.W.kitOne K (.ref A.c_NoWindow) (.ref A.c_NoTable) = some false
  q_NoWindow_ValueError : PySem.W.kitOne K (.ref A.c_NoWindow) (.type "ValueError") = some true
  Ehg_NoWindow : PySem.W.findIn K (.ref A.c_NoWindow) "__getattribute__" = some (some (.builtin "BaseException.__getattribute__"))
  Ehk_NoWindow : PySem.W.findIn K (.ref A.c_NoWindow) "__getattr__" = some none
  Eha_NoWindow : PySem.W.findIn K (.ref A.c_NoWindow) "__class__" = some (some (.builtin "object.__class__"))
  Ehm_NoWindow : PySem.W.mroIn K A.c_NoWindow (.type "object") = some true
  Ehn : PySem.W.specialIn K (.builtin "object.__class__") "__get__" = some (some (.builtin "getset_descriptor.__get__"))
  Eht : PySem.W.takesIn K (.builtin "object.__class__") = some true
variable {K : PySem.W.Frag} {mg : Str → Option Value} {A : Adr}
theorem Txt.m_NoPlace_RowError (T : Txt K mg A) : PySem.W.exmOne K (.ref A.c_NoPlace) (.ref A.c_RowError) = some true := PySem.W.exm_ref T.b_RowError T.h_RowError T.t_RowError T.s_NoPlace_RowError
theorem Txt.E_NoPlace (T : Txt K mg A) : ExcC K A.c_NoPlace := ⟨T.Ehg_NoPlace, T.Ehk_NoPlace, T.b_NoPlace, T.h_NoPlace, T.Eha_NoPlace, T.Ehn, T.Eht, T.Ehm_NoPlace⟩
theorem Txt.m_NoWindow_RowError (T : Txt K mg A) : PySem.W.exmOne K (.ref A.c_NoWindow) (.ref A.c_RowError) = some true := PySem.W.exm_ref T.b_RowError T.h_RowError T.t_RowError T.s_NoWindow_RowError
theorem Txt.E_NoWindow (T : Txt K mg A) : ExcC K A.c_NoWindow := ⟨T.Ehg_NoWindow, T.Ehk_NoWindow, T.b_NoWindow, T.h_NoWindow, T.Eha_NoWindow, T.Ehn, T.Eht, T.Ehm_NoWindow⟩
end Ur
namespace Ur
open PySem L2
/-- a live row is made -/
def sp_Live___init__ (K : PySem.W.Frag) (C : Addr) : Sp := fun vs H Q _ => ∃ (o a dx : Addr) (ns : List Int), vs = [.ref o, .ref a] ∧ H o = some (.ins C dx []) ∧ H a = some (.lst (ns.map V.int)) ∧ ∀ pn pc H', H' o = some (.ins C dx (livF pn pc .non)) → H' pn = some (.lst (ns.map V.int)) → H' pc = some (.lst []) → H pn = none → H pc = none → pn ≠ pc → But o H H' → Q .non H'
section
variable {P : Program} {w : World} {K : PySem.W.Frag} {mg : Str → Option Value} {base : Heap} {A : Adr}
theorem ok_Live___init__ (T : Txt K mg A) : FnOk P w K mg base CX0 1 A.f_Live___init__ A.d_Live___init__ ["self", "row"] (sp_Live___init__ K A.c_Live) := by
  refine T.F_Live___init__.ok sc_Live___init__ (fun vs H Q E h => ?_) (fun cdv Ar outer s H vs Q E hr h => ?_)
  · obtain ⟨o, a, dx, ns, rfl, _⟩ := h
    rfl
  · have C_Live := T.C_Live
    have n_Live_numbers := T.n_Live_numbers
    have n_Live_changes := T.n_Live_changes
    have n_Live_made := T.n_Live_made
    obtain ⟨o, a, dx, ns, rfl, eo, ha, q⟩ := h
    refine ⟨_, (pss_cons (ps_fld (pv 0) (Ur.pe_t1 (Ur.call_list_ofK (K := K) rfl) (by rfl) T.m_list (by decide +kernel) (pv 1)) rfl)
    (pss_cons (ps_fld (pv 0) (pe_lst pa_nil) rfl)
    (pss_one (ps_fld (pv 0) pe_non rfl)))), ?_⟩
    tb_start
    intro pn npn
    have hop : o ≠ pn := by kcj_m
    tb_start
    intro pc npc
    have hoc : o ≠ pc := by kcj_m
    have hnc : pn ≠ pc := by kcj_m
    have fpc : H pc = none := by cc_off
    tb_start
    exact q pn pc _ (show _ = some (.ins A.c_Live dx (livF pn pc .non)) from upd_same) (by kct_strs) (by kct_strs) npn fpc hnc (by cc_are)
end
/-- a live row, where it is made -/
theorem mk_live {K : PySem.W.Frag} {C CR a x dx : Addr} {H : Hp} {ns : List Int} {R : Hp → Prop} {E : XK} (nx : H x = none) (nd : H dx = none) (ne : dx ≠ x) (ha : H a = some (.lst (ns.map V.int))) (hl : ns.length ≤ 1000)
    (q : ∀ pc H', Liv C CR (fun b => H b ≠ none) x pc H' ns [] → Same H H' → H pc = none → R H') :
    sp_Live___init__ K C ([.ref x, .ref a]) (upd (upd H dx (.own x)) x (.ins C dx [])) (fun v H2 => v = .non ∧ R H2) E := by
  have s1 : Same H (upd (upd H dx (.own x)) x (.ins C dx [])) := same_upd' nx (same_new nd)
  refine ⟨x, a, dx, ns, rfl, upd_same, s1 _ _ ha, fun pn pc H' e1 e2 e3 n1 n2 npc b => ⟨rfl, ?_⟩⟩
  have s2 : Same H H' := same_but b nx s1
  have f1 : H pn = none := s1.free n1
  have f2 : H pc = none := s1.free n2
  have hx : pn ≠ x := fun e => by rw [e, upd_same] at n1; cases n1
  have hcx : x ≠ pc := fun e => by rw [← e, upd_same] at n2; cases n2
  refine q pc H' ⟨⟨dx, pn, .non, e1, e2, fun b hb => ?_, .inl rfl⟩, ⟨[], e3, rfl, fun k t c h => nomatch h⟩, fun b hb => ⟨fun e => hb (e ▸ nx), fun e => hb (e ▸ f2)⟩, fun b hb => by
    cases e : H b with
    | none => exact absurd e hb
    | some v => exact ⟨v, s2 _ _ e⟩, hcx, hl, Nat.zero_le _⟩ s2 f2
  rcases hb with h | h | h
  · exact fun e => h (e ▸ f1)
  · rw [h]; exact hx
  · rw [h]; exact npc
end Ur
namespace Ur
open PySem L2
/-- the row, a new list -/
def sp_Live_row (K : PySem.W.Frag) (C : Addr) : Sp := fun vs H Q _ => ∃ (L : Addr → Prop) (CR o pc : Addr) (ns : List Int) (cs : List (Int × Int × List Int)), vs = [.ref o] ∧ Liv C CR L o pc H ns cs ∧ ∀ p H', H' p = some (.lst (ns.map V.int)) → Same H H' → H p = none → Q (.ref p) H'
section
variable {P : Program} {w : World} {K : PySem.W.Frag} {mg : Str → Option Value} {base : Heap} {A : Adr}
theorem ok_Live_row (T : Txt K mg A) : FnOk P w K mg base CX0 1 A.f_Live_row A.d_Live_row ["self"] (sp_Live_row K A.c_Live) := by
  refine T.F_Live_row.ok sc_Live_row (fun vs H Q E h => ?_) (fun cdv Ar outer s H vs Q E hr h => ?_)
  · obtain ⟨L, CR, o, pc, ns, cs, rfl, _⟩ := h
    rfl
  · have C_Live := T.C_Live
    have n_Live_numbers := T.n_Live_numbers
    have n_Live_changes := T.n_Live_changes
    have n_Live_made := T.n_Live_made
    obtain ⟨L, CR, o, pc, ns, cs, rfl, v, q⟩ := h
    obtain ⟨dx, pn, mv, eo, en, _, _⟩ := v.obj
    have hnl := v.len
    refine ⟨_, (pss_one (ps_ret (Ur.pe_t1 (Ur.call_list_ofK (K := K) rfl) (by rfl) T.m_list (by decide +kernel) (Ur.pe_fldK (K := K) rfl (pv 0) rfl)))), ?_⟩
    tb_start
    intro p np
    exact q p _ upd_same (same_new np) np
end
end Ur
namespace Ur
open PySem L2
/-- numbers laid in the place of some: tells these -/
def sp_Live_laid (K : PySem.W.Frag) (C : Addr) : Sp := fun vs H Q _ => ∃ (o dx pn pc b : Addr) (mv : V) (ns gs : List Int) (p m : Int), vs = [.ref o, .int p, .int m, .ref b] ∧ H o = some (.ins C dx (livF pn pc mv)) ∧ H pn = some (.lst (ns.map V.int)) ∧ H b = some (.lst (gs.map V.int)) ∧ 0 ≤ p ∧ 0 ≤ m ∧ p + m ≤ ns.length ∧ ns.length ≤ 2000 ∧ gs.length ≤ 2000 ∧ ∀ g r H', H' g = some (.lst ((gone ns p m).map V.int)) → H' r = some (.lst ((layd ns p m gs).map V.int)) → H' o = some (.ins C dx (livF r pc .non)) → H g = none → H r = none → g ≠ r → But o H H' → Q (.ref g) H'
section
variable {P : Program} {w : World} {K : PySem.W.Frag} {mg : Str → Option Value} {base : Heap} {A : Adr}
theorem ok_Live_laid (T : Txt K mg A) : FnOk P w K mg base CX0 1 A.f_Live_laid A.d_Live_laid ["self", "place", "many", "numbers"] (sp_Live_laid K A.c_Live) := by
  refine T.F_Live_laid.ok sc_Live_laid (fun vs H Q E h => ?_) (fun cdv Ar outer s H vs Q E hr h => ?_)
  · obtain ⟨o, dx, pn, pc, b, mv, ns, gs, p, m, rfl, _⟩ := h
    rfl
  · have C_Live := T.C_Live
    have n_Live_numbers := T.n_Live_numbers
    have n_Live_changes := T.n_Live_changes
    have n_Live_made := T.n_Live_made
    obtain ⟨o, dx, pn, pc, b, mv, ns, gs, p, m, rfl, eo, en, eb, h0, h1, h2, l1, l2, q⟩ := h
    refine ⟨_, (pss_cons (ps_set (i := 4) sc_Live_laid.nd rfl (Or.inl rfl) (pe_slice (Ur.sl_listK (K := K) rfl) (Ur.pe_fldK (K := K) rfl (pv 0) rfl) (po_some (pv 1)) (po_some (pe_op op_add (pv 1) (pv 2)))))
    (pss_cons (ps_fld (pv 0) (pe_op op_cat (pe_op op_cat (pe_slice (Ur.sl_listK (K := K) rfl) (Ur.pe_fldK (K := K) rfl (pv 0) rfl) po_none (po_some (pv 1))) (pv 3)) (pe_slice (Ur.sl_listK (K := K) rfl) (Ur.pe_fldK (K := K) rfl (pv 0) rfl) (po_some (pe_op op_add (pv 1) (pv 2))) po_none)) rfl)
    (pss_cons (ps_fld (pv 0) pe_non rfl)
    (pss_one (ps_ret (pv 4)))))), ?_⟩
    tb_start
    intro g ng
    have hog : o ≠ g := by kcj_m
    have hbg : b ≠ g := by kcj_m
    have hng : pn ≠ g := by kcj_m
    have e1 : (upd H g (.lst (cutV (ns.map V.int) (some p) (some (p + m))))) g = some (.lst ((gone ns p m).map V.int)) := by
      rw [upd_same, cutI_mid ns h0 (by omega), show (p + m).toNat - p.toNat = m.toNat by omega]; rfl
    have s1 : Same H (upd H g (.lst (cutV (ns.map V.int) (some p) (some (p + m))))) := same_new ng
    have eo1 := s1 _ _ eo
    have en1 := s1 _ _ en
    have eb1 := s1 _ _ eb
    generalize (upd H g (.lst (cutV (ns.map V.int) (some p) (some (p + m))))) = H1 at *
    tb_start
    intro q2 nq2
    have t2 : Same H1 (upd H1 q2 (.lst (cutV (ns.map V.int) none (some p)))) := same_new nq2
    have e2 : (upd H1 q2 (.lst (cutV (ns.map V.int) none (some p)))) q2 = some (.lst ((ns.take p.toNat).map V.int)) := by rw [upd_same, cutI_to ns h0]
    replace eo1 := t2 _ _ eo1
    replace en1 := t2 _ _ en1
    replace eb1 := t2 _ _ eb1
    replace e1 := t2 _ _ e1
    have w2 := nq2
    replace s1 := s1.trans t2
    generalize (upd H1 q2 (.lst (cutV (ns.map V.int) none (some p)))) = H2 at *
    have hl2 : (ns.take p.toNat).length ≤ 2000 := by rw [List.length_take]; omega
    tb_start
    rw [← List.map_append]
    intro q3 nq3
    have t3 : Same H2 (upd H2 q3 (.lst ((ns.take p.toNat ++ gs).map V.int))) := same_new nq3
    have e3 : (upd H2 q3 (.lst ((ns.take p.toNat ++ gs).map V.int))) q3 = some (.lst ((ns.take p.toNat ++ gs).map V.int)) := upd_same
    replace eo1 := t3 _ _ eo1
    replace en1 := t3 _ _ en1
    replace e1 := t3 _ _ e1
    have w3 := nq3
    replace s1 := s1.trans t3
    generalize (upd H2 q3 (.lst ((ns.take p.toNat ++ gs).map V.int))) = H3 at *
    have hl3 : (ns.take p.toNat ++ gs).length ≤ 4000 := by rw [List.length_append]; omega
    tb_start
    intro q4 nq4
    have t4 : Same H3 (upd H3 q4 (.lst (cutV (ns.map V.int) (some (p + m)) none))) := same_new nq4
    have e4 : (upd H3 q4 (.lst (cutV (ns.map V.int) (some (p + m)) none))) q4 = some (.lst ((ns.drop (p + m).toNat).map V.int)) := by rw [upd_same, cutI_from ns (by omega)]
    replace eo1 := t4 _ _ eo1
    replace en1 := t4 _ _ en1
    replace e1 := t4 _ _ e1
    replace e3 := t4 _ _ e3
    have w4 := nq4
    replace s1 := s1.trans t4
    generalize (upd H3 q4 (.lst (cutV (ns.map V.int) (some (p + m)) none))) = H4 at *
    have hl4 : (ns.drop (p + m).toNat).length ≤ 2000 := by rw [List.length_drop]; omega
    tb_start
    rw [← List.map_append]
    intro q5 nq5
    have hg5 : g ≠ q5 := fun e => by rw [e, nq5] at e1; cases e1
    have t5 : Same H4 (upd H4 q5 (.lst ((ns.take p.toNat ++ gs ++ ns.drop (p + m).toNat).map V.int))) := same_new nq5
    have e5 : (upd H4 q5 (.lst ((ns.take p.toNat ++ gs ++ ns.drop (p + m).toNat).map V.int))) q5 = some (.lst ((layd ns p m gs).map V.int)) := upd_same
    replace eo1 := t5 _ _ eo1
    replace e1 := t5 _ _ e1
    have w5 := nq5
    have s1' : ∀ x : Addr, H4 x = none → H x = none := fun x e => s1.free e
    replace s1 := s1.trans t5
    generalize (upd H4 q5 (.lst ((ns.take p.toNat ++ gs ++ ns.drop (p + m).toNat).map V.int))) = H5 at *
    have ho5 : o ≠ q5 := fun e => by rw [e, e5] at eo1; cases eo1
    tb_start
    rw [liv_setN]
    tb_start
    rw [liv_setM]
    have hb : But o H (upd (upd H5 o (.ins A.c_Live dx (livF q5 pc mv))) o (.ins A.c_Live dx (livF q5 pc .non))) := but_at (but_at (Same.but s1))
    refine q g q5 _ ?_ ?_ upd_same ng (s1' _ w5) hg5 hb
    · rw [upd_ne (Ne.symm hog), upd_ne (Ne.symm hog)]; exact e1
    · rw [upd_ne (Ne.symm ho5), upd_ne (Ne.symm ho5)]; exact e5
end
end Ur
namespace Ur
open PySem L2
/-- the last change taken back, if there is one -/
def sp_Live_undo (K : PySem.W.Frag) (C : Addr) : Sp := fun vs H Q _ => ∃ (L : Addr → Prop) (CR o pc : Addr) (ns : List Int) (cs : List (Int × Int × List Int)), vs = [.ref o] ∧ Liv C CR L o pc H ns cs ∧ UndoQ C CR L o pc H ns cs Q
section
variable {P : Program} {w : World} {K : PySem.W.Frag} {mg : Str → Option Value} {base : Heap} {A : Adr}
theorem ok_Live_undo (T : Txt K mg A) : FnOk P w K mg base CX0 2 A.f_Live_undo A.d_Live_undo ["self"] (sp_Live_undo K A.c_Live) := by
  have G_Live_laid := ok_Live_laid (P := P) (w := w) (base := base) T
  refine T.F_Live_undo.ok sc_Live_undo (fun vs H Q E h => ?_) (fun cdv Ar outer s H vs Q E hr h => ?_)
  · obtain ⟨L, CR, o, pc, ns, cs, rfl, _⟩ := h
    rfl
  · have C_Live := T.C_Live
    have n_Live_numbers := T.n_Live_numbers
    have n_Live_changes := T.n_Live_changes
    have n_Live_made := T.n_Live_made
    obtain ⟨L, CR, o, pc, ns, cs, rfl, v, uq⟩ := h
    obtain ⟨dx, pn, mv, eo, en, hpn, _⟩ := v.obj
    have hpnc : pn ≠ pc := hpn pc (.inr (.inr rfl))
    clear hpn
    obtain ⟨ts, ec, htl, hch⟩ := v.chs
    have hnl := v.len
    have hno := v.ne
    refine ⟨_, (pss_cons (ps_if (pt_cmpR (Ur.op_eqDK (K := K) rfl hr.units) (Ur.pe_fldK (K := K) rfl (pv 0) rfl) (pe_lst pa_nil) (nomark _)) (pss_one (ps_ret pe_bl)) pss_nil)
    (pss_cons (ps_asg (pe_bm0 PySem.F.plainAttrs_list PySem.F.slot_list_pop PySem.F.type_list_pop mt_pop (Ur.pe_fldK (K := K) rfl (pv 0) rfl)) (pg_tup (by rfl) (pgs_cons (pg_name (i := 1) sc_Live_undo.nd rfl (Or.inl rfl)) (pgs_cons (pg_name (i := 2) sc_Live_undo.nd rfl (Or.inl rfl)) (pgs_cons (pg_name (i := 3) sc_Live_undo.nd rfl (Or.inl rfl)) pgs_nil)))))
    (pss_cons (ps_expr (pe_meth (pv 0) T.C_Live T.M_Live_laid G_Live_laid (hr.mono (by decide)) T.b_Live_laid .nil pass0 (pa_cons (pv 1) (pa_cons (pv 2) (pa_cons (pv 3) pa_nil)))))
    (pss_one (ps_ret pe_bl))))), ?_⟩
    tb_start
    intro b nb
    have s1 : Same H (upd H b (.lst [])) := same_new nb
    have eb : (upd H b (.lst [])) b = some (.lst []) := upd_same
    have eo1 := s1 _ _ eo
    have en1 := s1 _ _ en
    have ec1 := s1 _ _ ec
    have v1 := v.same s1
    generalize (upd H b (.lst [])) = H1 at *
    refine v1.noChanges (.of eb) ?_
    by_cases hcs : cs = []
    · rw [decide_eq_true hcs]
      tb_start
      exact uq.no hcs _ v1 (Fr.same s1)
    · rw [decide_eq_false hcs]
      obtain ⟨ds, c, rfl⟩ : ∃ ds c, cs = ds ++ [c] := ⟨cs.dropLast, cs.getLast hcs, (List.dropLast_concat_getLast hcs).symm⟩
      rw [List.length_append] at htl
      obtain ⟨us, t, rfl⟩ : ∃ us t, ts = us ++ [t] := by
        have hne : ts ≠ [] := fun e => by rw [e] at htl; cases htl
        exact ⟨ts.dropLast, ts.getLast hne, (List.dropLast_concat_getLast hne).symm⟩
      obtain ⟨⟨c0, c1, c2, c3, c4⟩, q2⟩ := uq.yes ds c rfl
      rw [List.length_append] at htl
      have hul : us.length + 1 = ds.length + 1 := htl
      obtain ⟨g, et, eg, hoff⟩ := (hch us.length t c (by rw [List.getElem?_append_right (Nat.le_refl _), Nat.sub_self]; rfl) (by rw [List.getElem?_append_right (by omega), show us.length - ds.length = 0 by omega]; rfl)).all
      have et1 := s1 _ _ et
      have eg1 := s1 _ _ eg
      have htc : t ≠ pc := (hoff pc (.inr (.inr rfl))).1
      have hgc : g ≠ pc := (hoff pc (.inr (.inr rfl))).2
      clear hch hoff et eg
      have hlast : ((us ++ [t]).map V.ref)[((us ++ [t]).map V.ref).length - 1]? = some (.ref t) := by
        rw [List.length_map, List.length_append, List.getElem?_map, List.getElem?_append_right (by show us.length ≤ us.length + 1 - 1; omega)]
        show Option.map V.ref ([t][us.length + 1 - 1 - us.length]?) = _
        rw [show us.length + 1 - 1 - us.length = 0 by omega]
        rfl
      have hdl : ((us ++ [t]).map V.ref).dropLast = us.map V.ref := by rw [List.map_append]; exact List.dropLast_concat
      tb_start
      intro g2 r2 H2 e1 e2 e3 n1 n2 ngr b2
      have nr2 : H1 r2 = none := upd_none n2
      have e4 : H2 pc = some (.lst (us.map V.ref)) := by rw [← hdl]; exact b2 _ _ (Ne.symm hno) upd_same
      have f2 : Fr o pc H1 H2 := (Fr.but2 (but_at but_refl)).trans (Fr.but b2)
      have v2 := v1.unnote ec1 e2 e3 e4 nr2 f2 c3
      tb_start
      exact q2 _ v2 ((Fr.same s1).trans f2)
end
end Ur
namespace Ur
open PySem L2
/-- a number -/
def sp__law_number (K : PySem.W.Frag) : Sp := fun vs H Q _ => ∃ (w i : Int), vs = [.int w, .int i] ∧ 0 ≤ w ∧ w < 4 ∧ ∀ (n : Int) H', Same H H' → Q (.int n) H'
section
variable {P : Program} {w : World} {K : PySem.W.Frag} {mg : Str → Option Value} {base : Heap} {A : Adr}
theorem ok__law_number (T : Txt K mg A) : FnOk P w K mg base CX0 1 A.f__law_number A.d__law_number ["kind", "k"] (sp__law_number K) := by
  refine T.F__law_number.ok sc__law_number (fun vs H Q E h => ?_) (fun cdv Ar outer s H vs Q E hr h => ?_)
  · obtain ⟨w, i, rfl, _⟩ := h
    rfl
  · obtain ⟨w, i, rfl, h0, h1, q⟩ := h
    refine ⟨_, (pss_one (ps_ret (pe_ix (Ur.ix_listK (K := K) rfl) (pe_lst (pa_cons (pv 1) (pa_cons (pe_op op_sub (pv 1) pe_int) (pa_cons (pe_op op_sub (pe_op op_mul (pv 1) (pe_op op_pow pe_int pe_int)) (pe_op op_pow pe_int pe_int)) (pa_cons (pe_op op_mul (pe_op op_sub (pe_op op_mul (pe_op op_mod (pv 1) pe_int) pe_int) pe_int) (pe_op op_sub (pe_op op_pow pe_int pe_int) (pv 1))) pa_nil))))) (pv 0) (fun _ _ => rfl)))), ?_⟩
    tb_start
    · intro p np
      tb_start
      exact q _ _ (by kcj_in)
end
end Ur
namespace Ur
open PySem L2
/-- the next draw, below many, or 0 -/
def sp__law_take (K : PySem.W.Frag) : Sp := fun vs H Q _ => ∃ (a : Addr) (ns : List Int) (m : Int), vs = [.ref a, .int m] ∧ H a = some (.lst (ns.map V.int)) ∧ 0 < m ∧ ∀ (n : Int) (ms : List Int) H', 0 ≤ n → n < m → H' a = some (.lst (ms.map V.int)) → But a H H' → Q (.int n) H'
section
variable {P : Program} {w : World} {K : PySem.W.Frag} {mg : Str → Option Value} {base : Heap} {A : Adr}
theorem ok__law_take (T : Txt K mg A) : FnOk P w K mg base CX0 1 A.f__law_take A.d__law_take ["draws", "many"] (sp__law_take K) := by
  refine T.F__law_take.ok sc__law_take (fun vs H Q E h => ?_) (fun cdv Ar outer s H vs Q E hr h => ?_)
  · obtain ⟨a, ns, m, rfl, _⟩ := h
    rfl
  · obtain ⟨a, ns, m, rfl, ha, hm, q⟩ := h
    refine ⟨_, (pss_cons (ps_if (pt_cmpR (Ur.op_eqDK (K := K) rfl hr.units) (pv 0) (pe_lst pa_nil) (nomark _)) (pss_one (ps_ret pe_int)) pss_nil)
    (pss_one (ps_ret (pe_op op_mod (pe_bm PySem.F.plainAttrs_list PySem.F.slot_list_pop PySem.F.type_list_pop mt_popAt (pv 0) (pa_cons pe_int pa_nil)) (pv 1))))), ?_⟩
    tb_start
    intro p np
    have hap : a ≠ p := by kcj_m
    tb_start
    refine br (fun hq => ?_) (fun hq => ?_)
    · tb_start
      exact q 0 ns _ (by omega) hm (by kct_strs) (by cc_are)
    · have hpos : 0 < ns.length := by
        cases ns with
        | nil => exact absurd rfl hq
        | cons y ns => exact Nat.succ_pos _
      have hp1 := pop_at (fs := ns) (i := 0) (by omega) (by omega)
      have hp2 := pop_get (fs := ns) (k := (0 : Int).toNat) hpos
      tb_start
      exact q _ (ns.eraseIdx (0 : Int).toNat) _ (Int.emod_nonneg _ (by omega)) (Int.emod_lt_of_pos _ hm) (lst_cast (by kct_strs) (erase_map _ _)) (by cc_are)
end
end Ur
namespace Ur
open PySem L2
/-- any number -/
def sp__law_any (K : PySem.W.Frag) : Sp := fun vs H Q _ => ∃ (a : Addr) (ns : List Int), vs = [.ref a] ∧ H a = some (.lst (ns.map V.int)) ∧ ∀ (n : Int) (ms : List Int) H', H' a = some (.lst (ms.map V.int)) → But a H H' → Q (.int n) H'
section
variable {P : Program} {w : World} {K : PySem.W.Frag} {mg : Str → Option Value} {base : Heap} {A : Adr}
theorem ok__law_any (T : Txt K mg A) : FnOk P w K mg base CX0 2 A.f__law_any A.d__law_any ["draws"] (sp__law_any K) := by
  have G__law_number := ok__law_number (P := P) (w := w) (base := base) T
  have G__law_take := ok__law_take (P := P) (w := w) (base := base) T
  refine T.F__law_any.ok sc__law_any (fun vs H Q E h => ?_) (fun cdv Ar outer s H vs Q E hr h => ?_)
  · obtain ⟨a, ns, rfl, _⟩ := h
    rfl
  · obtain ⟨a, ns, rfl, ha, q⟩ := h
    refine ⟨_, (pss_one (ps_ret (pe_call G__law_number (hr.mono (by decide)) (by rfl) T.g__law_number T.F__law_number.kp T.b__law_number .nil pass0 (pa_cons (pe_call G__law_take (hr.mono (by decide)) (by rfl) T.g__law_take T.F__law_take.kp T.b__law_take .nil pass0 (pa_cons (pv 0) (pa_cons pe_int pa_nil))) (pa_cons (pe_call G__law_take (hr.mono (by decide)) (by rfl) T.g__law_take T.F__law_take.kp T.b__law_take .nil pass0 (pa_cons (pv 0) (pa_cons pe_int pa_nil))) pa_nil))))), ?_⟩
    tb_start
    intro x1 n1 H1 h10 h11 a1 b1
    tb_start
    intro x2 n2 H2 h20 h21 a2 b2
    tb_start
    intro v H3 s3
    exact q v n2 _ (s3 _ _ a2) (by cc_are)
end
end Ur
namespace Ur
open PySem L2
/-- a list so many deep -/
def sp__law_deep (K : PySem.W.Frag) : Sp := fun vs H Q _ => ∃ m : Int, vs = [.int m] ∧ 1 ≤ m ∧ m ≤ 5000 ∧ ∀ p z zs H', H' p = some (.lst [.ref z]) → H' z = some (.lst zs) → H p = none → H z = none → Same H H' → Q (.ref p) H'
section
variable {P : Program} {w : World} {K : PySem.W.Frag} {mg : Str → Option Value} {base : Heap} {A : Adr}
theorem ok__law_deep (T : Txt K mg A) : FnOk P w K mg base CX0 1 A.f__law_deep A.d__law_deep ["many"] (sp__law_deep K) := by
  refine T.F__law_deep.ok sc__law_deep (fun vs H Q E h => ?_) (fun cdv Ar outer s H vs Q E hr h => ?_)
  · obtain ⟨m, rfl, _⟩ := h
    rfl
  · obtain ⟨m, rfl, h1, h2, q⟩ := h
    refine ⟨_, (pss_cons (ps_set (i := 1) sc__law_deep.nd rfl (Or.inl rfl) (pe_lst pa_nil))
    (pss_cons (ps_for PassesOwn.never (by rfl) (pi_range1 (by rfl) T.m_range (pa_cons (pv 0) pa_nil)) (pg_name (i := 2) sc__law_deep.nd rfl (Or.inl rfl)) (pss_one (ps_set (i := 1) sc__law_deep.nd rfl (Or.inl rfl) (pe_lst (pa_cons (pv 1) pa_nil)))))
    (pss_one (ps_ret (pv 1))))), ?_⟩
    tb_start
    intro d0 m0
    tb_start
    refine for_range (n := m.toNat) (fun i σ H3 => Iv (∃ (r : Addr) (us : List V) (x : Option V), σ = [some (.int m), some (.ref r), x] ∧ H3 r = some (.lst us) ∧ H r = none ∧ (i = 0 ∨ ∃ z zs, us = [.ref z] ∧ H3 z = some (.lst zs) ∧ H z = none) ∧ Same H H3)) ?g0 ?gs ?gd
    case g0 => exact ⟨d0, [], _, rfl, upd_same, m0, .inl rfl, same_new m0⟩
    case gs =>
      rintro i σ H3 hi ⟨r, us, x, rfl, er, nr, _, s3⟩
      tb_start
      intro d1 m1
      tb_start
      exact ⟨d1, _, _, rfl, upd_same, s3.free m1, .inr ⟨r, us, rfl, by kct_strs, nr⟩, by kcj_in⟩
    case gd =>
      rintro σ H3 ⟨r, us, x, rfl, er, nr, hz, s3⟩
      obtain ⟨z, zs, rfl, ez, nz⟩ : ∃ z zs, us = [.ref z] ∧ H3 z = some (.lst zs) ∧ H z = none := by
        rcases hz with h | h
        · omega
        · exact h
      tb_start
      exact q r z zs _ er ez nr nz s3
end
end Ur
namespace Ur
open PySem L2
/-- what is no place -/
def sp__law_bad_place (K : PySem.W.Frag) : Sp := fun vs H Q _ => ∃ (a : Addr) (ds : List Int) (n t : Int), vs = [.ref a, .int n, .int t] ∧ H a = some (.lst (ds.map V.int)) ∧ 0 ≤ n ∧ n ≤ 1000 ∧ 0 ≤ t ∧ t ≤ 1 ∧ ∀ v ms H', H' a = some (.lst ((ms : List Int).map V.int)) → Kind H' v → (∀ b o, H b = some o → v ≠ .ref b) → NoPlI (n + t - 1) v → But a H H' → Q v H'
section
variable {P : Program} {w : World} {K : PySem.W.Frag} {mg : Str → Option Value} {base : Heap} {A : Adr}
theorem ok__law_bad_place (T : Txt K mg A) : FnOk P w K mg base CX0 2 A.f__law_bad_place A.d__law_bad_place ["draws", "long", "put"] (sp__law_bad_place K) := by
  have G__law_deep := ok__law_deep (P := P) (w := w) (base := base) T
  have G__law_take := ok__law_take (P := P) (w := w) (base := base) T
  refine T.F__law_bad_place.ok sc__law_bad_place (fun vs H Q E h => ?_) (fun cdv Ar outer s H vs Q E hr h => ?_)
  · obtain ⟨a, ds, n, t, rfl, _⟩ := h
    rfl
  · obtain ⟨a, ds, n, t, rfl, ha, hn0, hn1, ht0, ht1, q⟩ := h
    refine ⟨_, (pss_cons (ps_set (i := 3) sc__law_bad_place.nd rfl (Or.inl rfl) (pe_lst (pa_cons (pe_un un_neg pe_int) (pa_cons (pe_op op_add (pv 1) (pv 2)) (pa_cons (pe_op op_add (pe_op op_add (pv 1) (pv 2)) pe_int) (pa_cons (pe_op op_sub (pe_op op_sub pe_int (pv 1)) pe_int) (pa_cons (pe_op op_pow pe_int pe_int) (pa_cons pe_bl (pa_cons pe_bl (pa_cons pe_non (pa_cons pe_str (pa_cons (pe_lst (pa_cons pe_int pa_nil)) (pa_cons (pe_tup (pa_cons pe_int pa_nil)) (pa_cons pe_dnewK pa_nil))))))))))))))
    (pss_cons (ps_set (i := 3) sc__law_bad_place.nd rfl (Or.inl rfl) (pe_op op_cat (pv 3) (pe_lst (pa_cons (pe_un un_neg (pe_op op_pow pe_int pe_int)) (pa_cons (pe_op op_add (pe_op op_add (pv 1) (pv 2)) (pe_call G__law_take (hr.mono (by decide)) (by rfl) T.g__law_take T.F__law_take.kp T.b__law_take .nil pass0 (pa_cons (pv 0) (pa_cons pe_int pa_nil)))) (pa_cons (pe_call G__law_deep (hr.mono (by decide)) (by rfl) T.g__law_deep T.F__law_deep.kp T.b__law_deep .nil pass0 (pa_cons pe_int pa_nil)) (pa_cons pe_str pa_nil)))))))
    (pss_one (ps_ret (pe_ix (Ur.ix_listK (K := K) rfl) (pv 3) (pe_call G__law_take (hr.mono (by decide)) (by rfl) T.g__law_take T.F__law_take.kp T.b__law_take .nil pass0 (pa_cons (pv 0) (pa_cons pe_int pa_nil))) (fun _ _ => rfl)))))), ?_⟩
    tb_start
    intro p1 n1
    have d1 : a ≠ p1 := by kcj_m
    tb_start
    intro p2 n2
    have d2 : a ≠ p2 := by kcj_m
    have d12 : p1 ≠ p2 := by kcj_m
    tb_start
    intro p3 n3
    have d3 : a ≠ p3 := by kcj_m
    have d13 : p1 ≠ p3 := by kcj_m
    have d23 : p2 ≠ p3 := by kcj_m
    tb_start
    intro p4 n4
    have d4 : a ≠ p4 := by kcj_m
    have d14 : p1 ≠ p4 := by kcj_m
    have d24 : p2 ≠ p4 := by kcj_m
    have d34 : p3 ≠ p4 := by kcj_m
    tb_start
    intro x5 m5 H5 hx0 hx1 a5 b5
    have e41 := b5 _ _ (Ne.symm d4) upd_same
    have e11 : H5 p1 = some (.lst [.int 0]) := b5 _ _ (Ne.symm d1) (by kct_strs)
    have e21 : H5 p2 = some (.tup [.int 0]) := b5 _ _ (Ne.symm d2) (by kct_strs)
    have e31 : H5 p3 = some (.dK []) := b5 _ _ (Ne.symm d3) (by kct_strs)
    have f1 : H p1 = none := by cc_off
    have f2 : H p2 = none := by cc_off
    have f3 : H p3 = none := by cc_off
    have b05 : But a H H5 := by cc_are
    clear b5 n1 n2 n3 n4 d12 d13 d23 d14 d24 d34
    tb_start
    intro pd z zs H6 e6 ez nd nz s6
    have e42 := s6 _ _ e41
    have e12 := s6 _ _ e11
    have e22 := s6 _ _ e21
    have e32 := s6 _ _ e31
    have a6 := s6 _ _ a5
    have b06 := but_step' s6 b05
    have fd : H pd = none := but_free nd b05 a5
    clear s6 nz nd e41 e11 e21 e31 a5 b05
    tb_start
    intro p7 n7
    have d47 : p4 ≠ p7 := by kcj_m
    tb_start
    intro p8 n8
    have d8 : a ≠ p8 := by kcj_m
    generalize hX : (upd _ p8 _) = HX
    have sX : Same H6 HX := by rw [← hX]; kcj_in
    have e8 : HX p8 = some (.lst ([V.int (-1), V.int (n + t), V.int (n + t + 1), V.int (0 - n - 1), V.int (10 ^ (20 : Int).toNat), V.bl true, V.bl false, V.non, V.str (Str.ofString "0"), V.ref p1, V.ref p2, V.ref p3] ++ [V.int (-(10 ^ (20 : Int).toNat)), V.int (n + t + x5), V.ref pd, V.str (Str.ofString "")])) := by rw [← hX]; exact upd_same
    have aX := sX _ _ a6
    have bX := but_step' sX b06
    have e1X := sX _ _ e12
    have e2X := sX _ _ e22
    have e3X := sX _ _ e32
    have edX := sX _ _ e6
    clear hX n7 n8 d47 sX a6 b06 e12 e22 e32 e42 e6 ez
    tb_start
    intro k9 m9 H9 hk0 hk1 a9 b9
    have e19 := b9 _ _ (Ne.symm d1) e1X
    have e29 := b9 _ _ (Ne.symm d2) e2X
    have e39 := b9 _ _ (Ne.symm d3) e3X
    have ed9 := b9 _ _ (fun z => by rw [z] at fd; rw [fd] at ha; cases ha) edX
    have e89 := b9 _ _ (Ne.symm d8) e8
    have b09 := but_step b9 bX
    clear b9 bX e1X e2X e3X edX e8 aX
    obtain ⟨v, hv, hm, _⟩ := atI_get (xs := [V.int (-1), V.int (n + t), V.int (n + t + 1), V.int (0 - n - 1), V.int (10 ^ (20 : Int).toNat), V.bl true, V.bl false, V.non, V.str (Str.ofString "0"), V.ref p1, V.ref p2, V.ref p3] ++ [V.int (-(10 ^ (20 : Int).toNat)), V.int (n + t + x5), V.ref pd, V.str (Str.ofString "")]) (i := k9) (by omega) (by show k9 < 16; omega)
    tb_start
    have old : ∀ {r : Addr}, H r = none → ∀ b o, H b = some o → V.ref r ≠ .ref b := fun n b o h e => by
      cases e
      rw [n] at h; cases h
    have g20 : (10 : Int) ^ (20 : Int).toNat = 100000000000000000000 := by decide
    have hkv : Kind H9 v ∧ (∀ b o, H b = some o → v ≠ .ref b) ∧ NoPlI (n + t - 1) v := by
      simp only [List.mem_append, List.mem_cons, List.not_mem_nil, or_false] at hm
      rcases hm with (rfl | rfl | rfl | rfl | rfl | rfl | rfl | rfl | rfl | rfl | rfl | rfl) | rfl | rfl | rfl | rfl
      · exact ⟨.int, fun _ _ _ z => (nomatch z), .int (by omega)⟩
      · exact ⟨.int, fun _ _ _ z => (nomatch z), .int (by omega)⟩
      · exact ⟨.int, fun _ _ _ z => (nomatch z), .int (by omega)⟩
      · exact ⟨.int, fun _ _ _ z => (nomatch z), .int (by omega)⟩
      · exact ⟨.int, fun _ _ _ z => (nomatch z), .int (by rw [g20]; omega)⟩
      · exact ⟨.bl, fun _ _ _ z => (nomatch z), fun _ z => (nomatch z)⟩
      · exact ⟨.bl, fun _ _ _ z => (nomatch z), fun _ z => (nomatch z)⟩
      · exact ⟨.non, fun _ _ _ z => (nomatch z), fun _ z => (nomatch z)⟩
      · exact ⟨.str, fun _ _ _ z => (nomatch z), fun _ z => (nomatch z)⟩
      · exact ⟨.lst e19, old f1, fun _ z => (nomatch z)⟩
      · exact ⟨.tup e29, old f2, fun _ z => (nomatch z)⟩
      · exact ⟨.dct e39, old f3, fun _ z => (nomatch z)⟩
      · exact ⟨.int, fun _ _ _ z => (nomatch z), .int (by rw [g20]; omega)⟩
      · exact ⟨.int, fun _ _ _ z => (nomatch z), .int (by omega)⟩
      · exact ⟨.lst ed9, old fd, fun _ z => (nomatch z)⟩
      · exact ⟨.str, fun _ _ _ z => (nomatch z), fun _ z => (nomatch z)⟩
    exact q v _ _ a9 hkv.1 hkv.2.1 hkv.2.2 b09
end
end Ur
namespace Ur
open PySem L2
/-- what is no window -/
def sp__law_bad_window (K : PySem.W.Frag) : Sp := fun vs H Q _ => ∃ (a : Addr) (ds : List Int) (n : Nat), vs = [.ref a, .int n] ∧ H a = some (.lst (ds.map V.int)) ∧ n ≤ 1000 ∧ ∀ p v w ms H', H' a = some (.lst ((ms : List Int).map V.int)) → H' p = some (.tup [v, w]) → H p = none → Kind H' v → Kind H' w → (∀ b o, H b = some o → v ≠ .ref b ∧ w ≠ .ref b) → NoWin n v w → But a H H' → Q (.ref p) H'
section
variable {P : Program} {w : World} {K : PySem.W.Frag} {mg : Str → Option Value} {base : Heap} {A : Adr}
theorem ok__law_bad_window (T : Txt K mg A) : FnOk P w K mg base CX0 2 A.f__law_bad_window A.d__law_bad_window ["draws", "long"] (sp__law_bad_window K) := by
  have G__law_deep := ok__law_deep (P := P) (w := w) (base := base) T
  have G__law_take := ok__law_take (P := P) (w := w) (base := base) T
  refine T.F__law_bad_window.ok sc__law_bad_window (fun vs H Q E h => ?_) (fun cdv Ar outer s H vs Q E hr h => ?_)
  · obtain ⟨a, ds, n, rfl, _⟩ := h
    rfl
  · obtain ⟨a, ds, n, rfl, ha, hn, q⟩ := h
    refine ⟨_, (pss_cons (ps_set (i := 2) sc__law_bad_window.nd rfl (Or.inl rfl) (pe_ix (Ur.ix_listK (K := K) rfl) (pe_lst (pa_cons pe_bl (pa_cons pe_bl (pa_cons pe_non (pa_cons pe_str (pa_cons (pe_lst (pa_cons pe_int pa_nil)) (pa_cons (pe_tup (pa_cons pe_int (pa_cons pe_int pa_nil))) (pa_cons pe_dnewK (pa_cons (pe_un un_neg pe_int) (pa_cons (pe_op op_add (pv 1) pe_int) (pa_cons (pe_op op_pow pe_int pe_int) (pa_cons (pe_call G__law_deep (hr.mono (by decide)) (by rfl) T.g__law_deep T.F__law_deep.kp T.b__law_deep .nil pass0 (pa_cons pe_int pa_nil)) pa_nil)))))))))))) (pe_call G__law_take (hr.mono (by decide)) (by rfl) T.g__law_take T.F__law_take.kp T.b__law_take .nil pass0 (pa_cons (pv 0) (pa_cons pe_int pa_nil))) (fun _ _ => rfl)))
    (pss_cons (ps_set (i := 3) sc__law_bad_window.nd rfl (Or.inl rfl) (pe_lst (pa_cons (pe_tup (pa_cons (pv 2) (pa_cons (pv 1) pa_nil))) (pa_cons (pe_tup (pa_cons pe_int (pa_cons (pv 2) pa_nil))) (pa_cons (pe_tup (pa_cons (pv 2) (pa_cons (pv 2) pa_nil))) (pa_cons (pe_tup (pa_cons pe_int (pa_cons pe_int pa_nil))) (pa_cons (pe_tup (pa_cons (pe_op op_add (pv 1) pe_int) (pa_cons (pe_op op_add (pv 1) pe_int) pa_nil))) (pa_cons (pe_tup (pa_cons (pv 1) (pa_cons (pe_op op_add (pv 1) pe_int) pa_nil))) (pa_cons (pe_tup (pa_cons (pe_un un_neg pe_int) (pa_cons (pv 1) pa_nil))) pa_nil)))))))))
    (pss_cons (ps_set (i := 3) sc__law_bad_window.nd rfl (Or.inl rfl) (pe_op op_cat (pv 3) (pe_lst (pa_cons (pe_tup (pa_cons (pv 1) (pa_cons (pe_un un_neg pe_int) pa_nil))) (pa_cons (pe_tup (pa_cons (pe_op op_add pe_int (pe_call G__law_take (hr.mono (by decide)) (by rfl) T.g__law_take T.F__law_take.kp T.b__law_take .nil pass0 (pa_cons (pv 0) (pa_cons pe_int pa_nil)))) (pa_cons pe_int pa_nil))) (pa_cons (pe_tup (pa_cons (pe_op op_add (pv 1) pe_int) (pa_cons pe_int pa_nil))) pa_nil))))))
    (pss_one (ps_ret (pe_ix (Ur.ix_listK (K := K) rfl) (pv 3) (pe_call G__law_take (hr.mono (by decide)) (by rfl) T.g__law_take T.F__law_take.kp T.b__law_take .nil pass0 (pa_cons (pv 0) (pa_cons pe_int pa_nil))) (fun _ _ => rfl))))))), ?_⟩
    tb_start
    intro p1 n1
    have d1 : a ≠ p1 := by kcj_m
    tb_start
    intro p2 n2
    have d2 : a ≠ p2 := by kcj_m
    have d12 : p1 ≠ p2 := by kcj_m
    tb_start
    intro p3 n3
    have d3 : a ≠ p3 := by kcj_m
    have d13 : p1 ≠ p3 := by kcj_m
    have d23 : p2 ≠ p3 := by kcj_m
    tb_start
    intro p4 z zs H4 e4 ez n4 nz s4
    have d4 : a ≠ p4 := nwA' ha (by cc_off : H p4 = none) |>.symm
    tb_start
    intro p5 n5
    have d5 : a ≠ p5 := by kcj_m
    have s5 : Same H4 (upd H4 p5 (.lst [V.bl true, V.bl false, V.non, V.str (Str.ofString "0"), V.ref p1, V.ref p2, V.ref p3, V.int (-1), V.int ((n : Int) + 1), V.int (10 ^ (20 : Int).toNat), V.ref p4])) := same_new n5
    have e55 : (upd H4 p5 (.lst [V.bl true, V.bl false, V.non, V.str (Str.ofString "0"), V.ref p1, V.ref p2, V.ref p3, V.int (-1), V.int ((n : Int) + 1), V.int (10 ^ (20 : Int).toNat), V.ref p4])) p5 = some (.lst [V.bl true, V.bl false, V.non, V.str (Str.ofString "0"), V.ref p1, V.ref p2, V.ref p3, V.int (-1), V.int ((n : Int) + 1), V.int (10 ^ (20 : Int).toNat), V.ref p4]) := upd_same
    have e11 : H4 p1 = some (.lst [.int 0]) := s4 _ _ (by kct_strs)
    have e21 : H4 p2 = some (.tup [.int 0, .int 1]) := s4 _ _ (by kct_strs)
    have e31 : H4 p3 = some (.dK []) := s4 _ _ (by kct_strs)
    have f1 : H p1 = none := by cc_off
    have f2 : H p2 = none := by cc_off
    have f3 : H p3 = none := by cc_off
    have f4 : H p4 = none := by cc_off
    have b05 : But a H (upd H4 p5 (.lst [V.bl true, V.bl false, V.non, V.str (Str.ofString "0"), V.ref p1, V.ref p2, V.ref p3, V.int (-1), V.int ((n : Int) + 1), V.int (10 ^ (20 : Int).toNat), V.ref p4])) := by cc_are
    have a5 : (upd H4 p5 (.lst [V.bl true, V.bl false, V.non, V.str (Str.ofString "0"), V.ref p1, V.ref p2, V.ref p3, V.int (-1), V.int ((n : Int) + 1), V.int (10 ^ (20 : Int).toNat), V.ref p4])) a = some (.lst (ds.map V.int)) := by kct_strs
    have e12 := s5 _ _ e11
    have e22 := s5 _ _ e21
    have e32 := s5 _ _ e31
    have e42 := s5 _ _ e4
    clear n1 n2 n3 s4 n4 nz n5 s5 d12 d13 d23 e11 e21 e31 e4 ez
    show tCall _ _ _ _ _ (upd H4 p5 (.lst [V.bl true, V.bl false, V.non, V.str (Str.ofString "0"), V.ref p1, V.ref p2, V.ref p3, V.int (-1), V.int ((n : Int) + 1), V.int (10 ^ (20 : Int).toNat), V.ref p4])) _
    generalize (upd H4 p5 (.lst _)) = H5 at *
    tb_start
    intro k6 m6 H6 hk0 hk1 a6 b6
    have e56 := b6 _ _ (Ne.symm d5) e55
    have e16 := b6 _ _ (Ne.symm d1) e12
    have e26 := b6 _ _ (Ne.symm d2) e22
    have e36 := b6 _ _ (Ne.symm d3) e32
    have e46 := b6 _ _ (Ne.symm d4) e42
    have b06 := but_step b6 b05
    clear b6 b05 e55 e12 e22 e32 e42 a5
    obtain ⟨v, hv, hm, _⟩ := atI_get (xs := [V.bl true, V.bl false, V.non, V.str (Str.ofString "0"), V.ref p1, V.ref p2, V.ref p3, V.int (-1), V.int ((n : Int) + 1), V.int (10 ^ (20 : Int).toNat), V.ref p4]) (i := k6) (by omega) (by show k6 < 11; omega)
    have old : ∀ {r : Addr}, H r = none → ∀ b o, H b = some o → V.ref r ≠ .ref b := fun n b o h e => by
      cases e
      rw [n] at h; cases h
    have g20 : (10 : Int) ^ (20 : Int).toNat = 100000000000000000000 := by decide
    have hkv : Kind H6 v ∧ (∀ b o, H b = some o → v ≠ .ref b) ∧ NoPl n v := by
      simp only [List.mem_cons, List.not_mem_nil, or_false] at hm
      rcases hm with rfl | rfl | rfl | rfl | rfl | rfl | rfl | rfl | rfl | rfl | rfl
      · exact ⟨.bl, fun _ _ _ z => (nomatch z), fun _ z => (nomatch z)⟩
      · exact ⟨.bl, fun _ _ _ z => (nomatch z), fun _ z => (nomatch z)⟩
      · exact ⟨.non, fun _ _ _ z => (nomatch z), fun _ z => (nomatch z)⟩
      · exact ⟨.str, fun _ _ _ z => (nomatch z), fun _ z => (nomatch z)⟩
      · exact ⟨.lst e16, old f1, fun _ z => (nomatch z)⟩
      · exact ⟨.tup e26, old f2, fun _ z => (nomatch z)⟩
      · exact ⟨.dct e36, old f3, fun _ z => (nomatch z)⟩
      · exact ⟨.int, fun _ _ _ z => (nomatch z), .int (by omega)⟩
      · exact ⟨.int, fun _ _ _ z => (nomatch z), .int (by omega)⟩
      · exact ⟨.int, fun _ _ _ z => (nomatch z), .int (by rw [g20]; omega)⟩
      · exact ⟨.lst e46, old f4, fun _ z => (nomatch z)⟩
    obtain ⟨kv, ov, nv⟩ := hkv
    clear hm e16 e26 e36 e46 old
    tb_start
    intro w1 nw1
    have fw1 : H w1 = none := but_free nw1 b06 a6
    have naw1 : w1 ≠ a := fun z => by rw [z, ha] at fw1; cases fw1
    generalize hX : (upd _ w1 _) = HW0
    have sw : Same H6 HW0 := by rw [← hX]; exact same_new nw1
    have ew1 : HW0 w1 = some (.tup [v, V.int (n : Int)]) := by rw [← hX]; exact upd_same
    replace kv := kv.same sw
    have bw0 := but_step' sw b06
    have aw0 := sw _ _ a6
    clear hX sw nw1 b06 a6
    tb_start
    intro w2 nw2
    have fw2 : H w2 = none := but_free nw2 bw0 aw0
    have naw2 : w2 ≠ a := fun z => by rw [z, ha] at fw2; cases fw2
    generalize hX : (upd _ w2 _) = HW1
    have sw : Same HW0 HW1 := by rw [← hX]; exact same_new nw2
    have ew2 : HW1 w2 = some (.tup [V.int 0, v]) := by rw [← hX]; exact upd_same
    replace ew1 := sw _ _ ew1
    replace kv := kv.same sw
    have bw1 := but_step' sw bw0
    have aw1 := sw _ _ aw0
    clear hX sw nw2 bw0 aw0
    tb_start
    intro w3 nw3
    have fw3 : H w3 = none := but_free nw3 bw1 aw1
    have naw3 : w3 ≠ a := fun z => by rw [z, ha] at fw3; cases fw3
    generalize hX : (upd _ w3 _) = HW2
    have sw : Same HW1 HW2 := by rw [← hX]; exact same_new nw3
    have ew3 : HW2 w3 = some (.tup [v, v]) := by rw [← hX]; exact upd_same
    replace ew1 := sw _ _ ew1
    replace ew2 := sw _ _ ew2
    replace kv := kv.same sw
    have bw2 := but_step' sw bw1
    have aw2 := sw _ _ aw1
    clear hX sw nw3 bw1 aw1
    tb_start
    intro w4 nw4
    have fw4 : H w4 = none := but_free nw4 bw2 aw2
    have naw4 : w4 ≠ a := fun z => by rw [z, ha] at fw4; cases fw4
    generalize hX : (upd _ w4 _) = HW3
    have sw : Same HW2 HW3 := by rw [← hX]; exact same_new nw4
    have ew4 : HW3 w4 = some (.tup [V.int 1, V.int 0]) := by rw [← hX]; exact upd_same
    replace ew1 := sw _ _ ew1
    replace ew2 := sw _ _ ew2
    replace ew3 := sw _ _ ew3
    replace kv := kv.same sw
    have bw3 := but_step' sw bw2
    have aw3 := sw _ _ aw2
    clear hX sw nw4 bw2 aw2
    tb_start
    intro w5 nw5
    have fw5 : H w5 = none := but_free nw5 bw3 aw3
    have naw5 : w5 ≠ a := fun z => by rw [z, ha] at fw5; cases fw5
    generalize hX : (upd _ w5 _) = HW4
    have sw : Same HW3 HW4 := by rw [← hX]; exact same_new nw5
    have ew5 : HW4 w5 = some (.tup [V.int ((n : Int) + 1), V.int ((n : Int) + 1)]) := by rw [← hX]; exact upd_same
    replace ew1 := sw _ _ ew1
    replace ew2 := sw _ _ ew2
    replace ew3 := sw _ _ ew3
    replace ew4 := sw _ _ ew4
    replace kv := kv.same sw
    have bw4 := but_step' sw bw3
    have aw4 := sw _ _ aw3
    clear hX sw nw5 bw3 aw3
    tb_start
    intro w6 nw6
    have fw6 : H w6 = none := but_free nw6 bw4 aw4
    have naw6 : w6 ≠ a := fun z => by rw [z, ha] at fw6; cases fw6
    generalize hX : (upd _ w6 _) = HW5
    have sw : Same HW4 HW5 := by rw [← hX]; exact same_new nw6
    have ew6 : HW5 w6 = some (.tup [V.int (n : Int), V.int ((n : Int) + 1)]) := by rw [← hX]; exact upd_same
    replace ew1 := sw _ _ ew1
    replace ew2 := sw _ _ ew2
    replace ew3 := sw _ _ ew3
    replace ew4 := sw _ _ ew4
    replace ew5 := sw _ _ ew5
    replace kv := kv.same sw
    have bw5 := but_step' sw bw4
    have aw5 := sw _ _ aw4
    clear hX sw nw6 bw4 aw4
    tb_start
    intro w7 nw7
    have fw7 : H w7 = none := but_free nw7 bw5 aw5
    have naw7 : w7 ≠ a := fun z => by rw [z, ha] at fw7; cases fw7
    generalize hX : (upd _ w7 _) = HW6
    have sw : Same HW5 HW6 := by rw [← hX]; exact same_new nw7
    have ew7 : HW6 w7 = some (.tup [V.int (-1), V.int (n : Int)]) := by rw [← hX]; exact upd_same
    replace ew1 := sw _ _ ew1
    replace ew2 := sw _ _ ew2
    replace ew3 := sw _ _ ew3
    replace ew4 := sw _ _ ew4
    replace ew5 := sw _ _ ew5
    replace ew6 := sw _ _ ew6
    replace kv := kv.same sw
    have bw6 := but_step' sw bw5
    have aw6 := sw _ _ aw5
    clear hX sw nw7 bw5 aw5
    tb_start
    intro wl nwl
    have fwl : H wl = none := but_free nwl bw6 aw6
    have nawl : wl ≠ a := fun z => by rw [z, ha] at fwl; cases fwl
    generalize hX : (upd _ wl _) = HW7
    have sw : Same HW6 HW7 := by rw [← hX]; exact same_new nwl
    have ewl : HW7 wl = some (.lst [V.ref w1, V.ref w2, V.ref w3, V.ref w4, V.ref w5, V.ref w6, V.ref w7]) := by rw [← hX]; exact upd_same
    replace ew1 := sw _ _ ew1
    replace ew2 := sw _ _ ew2
    replace ew3 := sw _ _ ew3
    replace ew4 := sw _ _ ew4
    replace ew5 := sw _ _ ew5
    replace ew6 := sw _ _ ew6
    replace ew7 := sw _ _ ew7
    replace kv := kv.same sw
    have bw7 := but_step' sw bw6
    have aw7 := sw _ _ aw6
    clear hX sw nwl bw6 aw6
    tb_start
    intro w8 nw8
    have fw8 : H w8 = none := but_free nw8 bw7 aw7
    have naw8 : w8 ≠ a := fun z => by rw [z, ha] at fw8; cases fw8
    generalize hX : (upd _ w8 _) = HW8
    have sw : Same HW7 HW8 := by rw [← hX]; exact same_new nw8
    have ew8 : HW8 w8 = some (.tup [V.int (n : Int), V.int (-1)]) := by rw [← hX]; exact upd_same
    replace ew1 := sw _ _ ew1
    replace ew2 := sw _ _ ew2
    replace ew3 := sw _ _ ew3
    replace ew4 := sw _ _ ew4
    replace ew5 := sw _ _ ew5
    replace ew6 := sw _ _ ew6
    replace ew7 := sw _ _ ew7
    replace ewl := sw _ _ ewl
    replace kv := kv.same sw
    have bw8 := but_step' sw bw7
    have aw8 := sw _ _ aw7
    clear hX sw nw8 bw7 aw7
    tb_start
    intro x9 mx9 HW9 h0x9 h1x9 aw9 bb
    replace ew1 := bb _ _ naw1 ew1
    replace ew2 := bb _ _ naw2 ew2
    replace ew3 := bb _ _ naw3 ew3
    replace ew4 := bb _ _ naw4 ew4
    replace ew5 := bb _ _ naw5 ew5
    replace ew6 := bb _ _ naw6 ew6
    replace ew7 := bb _ _ naw7 ew7
    replace ewl := bb _ _ nawl ewl
    replace ew8 := bb _ _ naw8 ew8
    replace kv := kv.but bb (ov a _ ha)
    have bw9 := but_step bb bw8
    clear bb bw8 aw8
    tb_start
    intro w9 nw9
    have fw9 : H w9 = none := but_free nw9 bw9 aw9
    have naw9 : w9 ≠ a := fun z => by rw [z, ha] at fw9; cases fw9
    generalize hX : (upd _ w9 _) = HW10
    have sw : Same HW9 HW10 := by rw [← hX]; exact same_new nw9
    have ew9 : HW10 w9 = some (.tup [V.int (1 + x9), V.int 0]) := by rw [← hX]; exact upd_same
    replace ew1 := sw _ _ ew1
    replace ew2 := sw _ _ ew2
    replace ew3 := sw _ _ ew3
    replace ew4 := sw _ _ ew4
    replace ew5 := sw _ _ ew5
    replace ew6 := sw _ _ ew6
    replace ew7 := sw _ _ ew7
    replace ewl := sw _ _ ewl
    replace ew8 := sw _ _ ew8
    replace kv := kv.same sw
    have bw10 := but_step' sw bw9
    have aw10 := sw _ _ aw9
    clear hX sw nw9 bw9 aw9
    tb_start
    intro w10 nw10
    have fw10 : H w10 = none := but_free nw10 bw10 aw10
    have naw10 : w10 ≠ a := fun z => by rw [z, ha] at fw10; cases fw10
    generalize hX : (upd _ w10 _) = HW11
    have sw : Same HW10 HW11 := by rw [← hX]; exact same_new nw10
    have ew10 : HW11 w10 = some (.tup [V.int ((n : Int) + 1), V.int 0]) := by rw [← hX]; exact upd_same
    replace ew1 := sw _ _ ew1
    replace ew2 := sw _ _ ew2
    replace ew3 := sw _ _ ew3
    replace ew4 := sw _ _ ew4
    replace ew5 := sw _ _ ew5
    replace ew6 := sw _ _ ew6
    replace ew7 := sw _ _ ew7
    replace ewl := sw _ _ ewl
    replace ew8 := sw _ _ ew8
    replace ew9 := sw _ _ ew9
    replace kv := kv.same sw
    have bw11 := but_step' sw bw10
    have aw11 := sw _ _ aw10
    clear hX sw nw10 bw10 aw10
    tb_start
    intro wm nwm
    have fwm : H wm = none := but_free nwm bw11 aw11
    have nawm : wm ≠ a := fun z => by rw [z, ha] at fwm; cases fwm
    generalize hX : (upd _ wm _) = HW12
    have sw : Same HW11 HW12 := by rw [← hX]; exact same_new nwm
    have ewm : HW12 wm = some (.lst [V.ref w8, V.ref w9, V.ref w10]) := by rw [← hX]; exact upd_same
    replace ew1 := sw _ _ ew1
    replace ew2 := sw _ _ ew2
    replace ew3 := sw _ _ ew3
    replace ew4 := sw _ _ ew4
    replace ew5 := sw _ _ ew5
    replace ew6 := sw _ _ ew6
    replace ew7 := sw _ _ ew7
    replace ewl := sw _ _ ewl
    replace ew8 := sw _ _ ew8
    replace ew9 := sw _ _ ew9
    replace ew10 := sw _ _ ew10
    replace kv := kv.same sw
    have bw12 := but_step' sw bw11
    have aw12 := sw _ _ aw11
    clear hX sw nwm bw11 aw11
    have dlm : wl ≠ wm := fun z => by rw [z, ewm] at ewl; cases ewl
    tb_start
    intro wn nwn
    have fwn : H wn = none := but_free nwn bw12 aw12
    have nawn : wn ≠ a := fun z => by rw [z, ha] at fwn; cases fwn
    generalize hX : (upd _ wn _) = HW13
    have sw : Same HW12 HW13 := by rw [← hX]; exact same_new nwn
    have ewn : HW13 wn = some (.lst ([V.ref w1, V.ref w2, V.ref w3, V.ref w4, V.ref w5, V.ref w6, V.ref w7] ++ [V.ref w8, V.ref w9, V.ref w10])) := by rw [← hX]; exact upd_same
    replace ew1 := sw _ _ ew1
    replace ew2 := sw _ _ ew2
    replace ew3 := sw _ _ ew3
    replace ew4 := sw _ _ ew4
    replace ew5 := sw _ _ ew5
    replace ew6 := sw _ _ ew6
    replace ew7 := sw _ _ ew7
    replace ewl := sw _ _ ewl
    replace ew8 := sw _ _ ew8
    replace ew9 := sw _ _ ew9
    replace ew10 := sw _ _ ew10
    replace ewm := sw _ _ ewm
    replace kv := kv.same sw
    have bw13 := but_step' sw bw12
    have aw13 := sw _ _ aw12
    clear hX sw nwn bw12 aw12
    tb_start
    intro x11 mx11 HW14 h0x11 h1x11 aw14 bb
    replace ew1 := bb _ _ naw1 ew1
    replace ew2 := bb _ _ naw2 ew2
    replace ew3 := bb _ _ naw3 ew3
    replace ew4 := bb _ _ naw4 ew4
    replace ew5 := bb _ _ naw5 ew5
    replace ew6 := bb _ _ naw6 ew6
    replace ew7 := bb _ _ naw7 ew7
    replace ewl := bb _ _ nawl ewl
    replace ew8 := bb _ _ naw8 ew8
    replace ew9 := bb _ _ naw9 ew9
    replace ew10 := bb _ _ naw10 ew10
    replace ewm := bb _ _ nawm ewm
    replace ewn := bb _ _ nawn ewn
    replace kv := kv.but bb (ov a _ ha)
    have bw14 := but_step bb bw13
    clear bb bw13 aw13
    obtain ⟨u, hu, hum, _⟩ := atI_get (xs := [V.ref w1, V.ref w2, V.ref w3, V.ref w4, V.ref w5, V.ref w6, V.ref w7] ++ [V.ref w8, V.ref w9, V.ref w10]) (i := x11) (by omega) (by show x11 < 10; omega)
    tb_start
    have oi : ∀ {i : Int} b o, H b = some o → V.int i ≠ .ref b := fun _ _ _ z => (nomatch z)
    simp only [List.mem_append, List.mem_cons, List.not_mem_nil, or_false] at hum
    rcases hum with (rfl | rfl | rfl | rfl | rfl | rfl | rfl) | rfl | rfl | rfl
    · exact q w1 _ _ _ _ aw14 ew1 fw1 kv .int (fun b o h => ⟨ov b o h, oi b o h⟩) (nv.winL) bw14
    · exact q w2 _ _ _ _ aw14 ew2 fw2 .int kv (fun b o h => ⟨oi b o h, ov b o h⟩) (nv.winR) bw14
    · exact q w3 _ _ _ _ aw14 ew3 fw3 kv kv (fun b o h => ⟨ov b o h, ov b o h⟩) (nv.winL) bw14
    · exact q w4 _ _ _ _ aw14 ew4 fw4 .int .int (fun b o h => ⟨oi b o h, oi b o h⟩) (.ints (by omega)) bw14
    · exact q w5 _ _ _ _ aw14 ew5 fw5 .int .int (fun b o h => ⟨oi b o h, oi b o h⟩) (.ints (by omega)) bw14
    · exact q w6 _ _ _ _ aw14 ew6 fw6 .int .int (fun b o h => ⟨oi b o h, oi b o h⟩) (.ints (by omega)) bw14
    · exact q w7 _ _ _ _ aw14 ew7 fw7 .int .int (fun b o h => ⟨oi b o h, oi b o h⟩) (.ints (by omega)) bw14
    · exact q w8 _ _ _ _ aw14 ew8 fw8 .int .int (fun b o h => ⟨oi b o h, oi b o h⟩) (.ints (by omega)) bw14
    · exact q w9 _ _ _ _ aw14 ew9 fw9 .int .int (fun b o h => ⟨oi b o h, oi b o h⟩) (.ints (by omega)) bw14
    · exact q w10 _ _ _ _ aw14 ew10 fw10 .int .int (fun b o h => ⟨oi b o h, oi b o h⟩) (.ints (by omega)) bw14
end
end Ur
namespace Ur
open PySem L2
/-- a place is let by, another thing is refused -/
def sp_Live_need_place (K : PySem.W.Frag) (C W : Addr) : Sp := fun vs H Q E => ∃ (o : Addr) (v : V) (m : Int), vs = [.ref o, v, .int m] ∧ ((∃ p : Int, v = .int p ∧ 0 ≤ p ∧ p ≤ m ∧ Q .non H) ∨ (Kind H v ∧ (∀ p : Int, v = .int p → ¬ (0 ≤ p ∧ p ≤ m)) ∧ E (.ref W) none H))
section
variable {P : Program} {w : World} {K : PySem.W.Frag} {mg : Str → Option Value} {base : Heap} {A : Adr}
theorem ok_Live_need_place (T : Txt K mg A) : FnOk P w K mg base (L2.CX P w) 1 A.f_Live_need_place A.d_Live_need_place ["self", "place", "most"] (sp_Live_need_place K A.c_Live A.c_NoPlace) := by
  refine T.F_Live_need_place.okX sc_Live_need_place (fun vs H Q E h => ?_) (fun cdv Ar outer s H vs Q E hr h => ?_)
  · obtain ⟨o, v, m, rfl, _⟩ := h
    rfl
  · have C_Live := T.C_Live
    have n_Live_numbers := T.n_Live_numbers
    have n_Live_changes := T.n_Live_changes
    have n_Live_made := T.n_Live_made
    obtain ⟨o, v, m, rfl, h⟩ := h
    refine ⟨_, (pss_one (ps_if (PW.pt (pw_or (pt_not (pt_val (Ur.pe_b2 (Ur.call_isiK (K := K) rfl) (by rfl) T.m_isinstance (by decide +kernel) (pv 1) (pe_bltn (v := .ty "int") (by rfl) T.m_int (by decide +kernel) rfl)))) (pw_or (pt_val (Ur.pe_b2 (Ur.call_isiK (K := K) rfl) (by rfl) T.m_isinstance (by decide +kernel) (pv 1) (pe_bltn (v := .ty "bool") (by rfl) T.m_bool (by decide +kernel) rfl))) (pw_or1 (pt_not (pt_chain op_le op_le pe_int (pv 1) (pv 2))))))) (pss_one (ps_raise rfl (takes_of rfl rfl rfl rfl) (pmk_own PySem.F.excBase_ValueError T.x_NoPlace T.g_NoPlace T.k_NoPlace (raises_own T.b_NoPlace T.t_NoPlace) (by exact rfl)))) pss_nil)), ?_⟩
    rcases h with ⟨p, rfl, h0, h1, q⟩ | ⟨hk, hn, q⟩
    · tb_start
      exact q
    rcases hk with ⟨p, rfl⟩ | ⟨c, rfl⟩ | ⟨x, rfl⟩ | rfl | ⟨p, xs, rfl, hp⟩ | ⟨p, xs, rfl, hp⟩ | ⟨p, xs, rfl, hp⟩
    · by_cases h0 : 0 ≤ p
      · have h1 : ¬ p ≤ m := fun k => hn p rfl ⟨h0, k⟩
        tb_start
        exact q
      · tb_start
        exact q
    all_goals
      tb_start
      exact q
end
end Ur
namespace Ur
open PySem L2
/-- .. and noted as a change -/
def sp_Live_noted (K : PySem.W.Frag) (C : Addr) : Sp := fun vs H Q _ => ∃ (o dx pn pc b : Addr) (mv : V) (ts : List Addr) (ns gs : List Int) (p m : Int), vs = [.ref o, .int p, .int m, .ref b] ∧ H o = some (.ins C dx (livF pn pc mv)) ∧ H pn = some (.lst (ns.map V.int)) ∧ H b = some (.lst (gs.map V.int)) ∧ H pc = some (.lst (ts.map V.ref)) ∧ ts.length ≤ 10000 ∧ 0 ≤ p ∧ 0 ≤ m ∧ p + m ≤ ns.length ∧ ns.length ≤ 2000 ∧ gs.length ≤ 2000 ∧ ∀ g r t H', H' g = some (.lst ((gone ns p m).map V.int)) → H' r = some (.lst ((layd ns p m gs).map V.int)) → H' o = some (.ins C dx (livF r pc .non)) → H' pc = some (.lst ((ts ++ [t]).map V.ref)) → H' t = some (.tup [.int p, .int gs.length, .ref g]) → H g = none → H r = none → H t = none → Fr o pc H H' → Q (.ref g) H'
section
variable {P : Program} {w : World} {K : PySem.W.Frag} {mg : Str → Option Value} {base : Heap} {A : Adr}
theorem ok_Live_noted (T : Txt K mg A) : FnOk P w K mg base CX0 2 A.f_Live_noted A.d_Live_noted ["self", "place", "many", "numbers"] (sp_Live_noted K A.c_Live) := by
  have G_Live_laid := ok_Live_laid (P := P) (w := w) (base := base) T
  refine T.F_Live_noted.ok sc_Live_noted (fun vs H Q E h => ?_) (fun cdv Ar outer s H vs Q E hr h => ?_)
  · obtain ⟨o, dx, pn, pc, b, mv, ts, ns, gs, p, m, rfl, _⟩ := h
    rfl
  · have C_Live := T.C_Live
    have n_Live_numbers := T.n_Live_numbers
    have n_Live_changes := T.n_Live_changes
    have n_Live_made := T.n_Live_made
    obtain ⟨o, dx, pn, pc, b, mv, ts, ns, gs, p, m, rfl, eo, en, eb, ec, htl, h0, h1, h2, l1, l2, q⟩ := h
    have hoc : o ≠ pc := by kcj_m
    have hob : o ≠ b := by kcj_m
    refine ⟨_, (pss_cons (ps_set (i := 4) sc_Live_noted.nd rfl (Or.inl rfl) (pe_meth (pv 0) T.C_Live T.M_Live_laid G_Live_laid (hr.mono (by decide)) T.b_Live_laid .nil pass0 (pa_cons (pv 1) (pa_cons (pv 2) (pa_cons (pv 3) pa_nil)))))
    (pss_cons (ps_expr (pe_bm PySem.F.plainAttrs_list PySem.F.slot_list_append PySem.F.type_list_append mt_append (Ur.pe_fldK (K := K) rfl (pv 0) rfl) (pa_cons (pe_tup (pa_cons (pv 1) (pa_cons (Ur.pe_b1 (Ur.call_lenIK (K := K) rfl) (by rfl) T.m_len (by decide +kernel) (pv 3)) (pa_cons (pv 4) pa_nil)))) pa_nil)))
    (pss_one (ps_ret (pv 4))))), ?_⟩
    tb_start
    intro g r H1 e1 e2 eo1 ng nr hgr b1
    have hog : o ≠ g := by kcj_m
    have ec1 := b1 _ _ (Ne.symm hoc) ec
    have eb1 := b1 _ _ (Ne.symm hob) eb
    have hcg : pc ≠ g := by kcj_m
    have hcr : pc ≠ r := by kcj_m
    have hor : o ≠ r := by kcj_m
    tb_start
    intro t nt
    have hct : pc ≠ t := by kcj_m
    have hot : o ≠ t := by kcj_m
    have hgt : g ≠ t := by kcj_m
    have hrt : r ≠ t := by kcj_m
    have ft : H t = none := but_free nt b1 eo1
    have hlt : (ts.map V.ref).length < sizeLine := szl (by rw [List.length_map]; omega)
    tb_start
    refine q g r t _ (by kct_strs) (by kct_strs) (by kct_strs) ?_ (by kct_strs) ng nr ft ?_
    · rw [upd_same, List.map_append]; rfl
    · exact (Fr.but b1).trans ((Fr.same (same_new nt)).trans (Fr.but2 (but_at but_refl)))
end
end Ur
namespace Ur
open PySem L2
/-- another number at a place; another thing is refused -/
def sp_Live_change (K : PySem.W.Frag) (C W : Addr) : Sp := fun vs H Q E => ∃ (o : Addr) (v : V) (x : Int), vs = [.ref o, v, .int x] ∧ ((∃ (L : Addr → Prop) (CR pc : Addr) (ns : List Int) (cs : List (Int × Int × List Int)) (p : Int), v = .int p ∧ Liv C CR L o pc H ns cs ∧ 0 ≤ p ∧ p < ns.length ∧ cs.length + 1 ≤ 10000 ∧ ∀ H', Liv C CR L o pc H' (layd ns p 1 [x]) (cs ++ [(p, 1, gone ns p 1)]) → Fr o pc H H' → Q .non H') ∨ (∃ (L : Addr → Prop) (CR pc : Addr) (ns : List Int) (cs : List (Int × Int × List Int)), Liv C CR L o pc H ns cs ∧ Kind H v ∧ (∀ p : Int, v = .int p → ¬ (0 ≤ p ∧ p ≤ ((ns.length : Int) - 1))) ∧ E (.ref W) none H))
section
variable {P : Program} {w : World} {K : PySem.W.Frag} {mg : Str → Option Value} {base : Heap} {A : Adr}
theorem ok_Live_change (T : Txt K mg A) : FnOk P w K mg base (L2.CX P w) 3 A.f_Live_change A.d_Live_change ["self", "place", "number"] (sp_Live_change K A.c_Live A.c_NoPlace) := by
  have G_Live_need_place := ok_Live_need_place (P := P) (w := w) (base := base) T
  have G_Live_noted := ok_Live_noted (P := P) (w := w) (base := base) T
  refine T.F_Live_change.okX sc_Live_change (fun vs H Q E h => ?_) (fun cdv Ar outer s H vs Q E hr h => ?_)
  · obtain ⟨o, v, x, rfl, _⟩ := h
    rfl
  · have C_Live := T.C_Live
    have n_Live_numbers := T.n_Live_numbers
    have n_Live_changes := T.n_Live_changes
    have n_Live_made := T.n_Live_made
    obtain ⟨o, v, x, rfl, h⟩ := h
    refine ⟨_, (pss_cons (ps_expr (Ur.pe_methA (pv 0) T.C_Live T.M_Live_need_place G_Live_need_place (hr.mono (by decide)) T.b_Live_need_place (fun σ => passAt (takes_of rfl rfl rfl rfl) σ) (pa_cons (pv 1) (pa_cons (pe_op op_sub (Ur.pe_b1 (Ur.call_lenIK (K := K) rfl) (by rfl) T.m_len (by decide +kernel) (Ur.pe_fldK (K := K) rfl (pv 0) rfl)) pe_int) pa_nil))))
    (pss_one (ps_expr (pe_meth (pv 0) T.C_Live T.M_Live_noted G_Live_noted (hr.mono (by decide)) T.b_Live_noted .nil pass0 (pa_cons (pv 1) (pa_cons pe_int (pa_cons (pe_lst (pa_cons (pv 2) pa_nil)) pa_nil))))))), ?_⟩
    rcases h with ⟨L, CR, pc, ns, cs, p, rfl, v, h0, h1, hc, q⟩ | ⟨L, CR, pc, ns, cs, lv, hk, hn, q⟩
    · skip
      obtain ⟨dx, pn, mv, eo, en, _, _⟩ := v.obj
      obtain ⟨ts, ec, htl, _⟩ := v.chs
      have hnl := v.len
      have hno := v.ne
      tb_start
      intro b nb
      have s1 : Same H (upd H b (.lst [.int x])) := same_new nb
      have eb : (upd H b (.lst [.int x])) b = some (.lst (([x] : List Int).map V.int)) := upd_same
      have eo1 := s1 _ _ eo
      have en1 := s1 _ _ en
      have ec1 := s1 _ _ ec
      have v1 := v.same s1
      generalize (upd H b (.lst [.int x])) = H1 at *
      have hlx : ([x] : List Int).length = 1 := rfl
      tb_start
      intro g r t H2 e1 e2 e3 e4 e5 ng nr nt f
      have hll := layd_len (ns := ns) (gs := [x]) (p := p) (m := 1) h0 (by omega) (by omega)
      rw [hlx] at hll
      have v2 := v1.note ec1 e1 e2 e3 e4 e5 ng nr nt f (by omega) hc
      tb_start
      exact q _ v2 ((Fr.same s1).trans f)
    · obtain ⟨dx, pn, mv, eo, en, _, _⟩ := lv.obj
      have hnl := lv.len
      tb_start
      refine .inr ?_
      tb_start
      exact q
end
end Ur
namespace Ur
open PySem L2
/-- the last places, a new list -/
def sp_last_places (K : PySem.W.Frag) : Sp := fun vs H Q _ => ∃ (a : Addr) (ns : List Int), vs = [.ref a] ∧ SqL K H a (ns.map V.int) ∧ ns.length ≤ 1000 ∧ ∀ p H', H' p = some (.lst ((lastP ns).map V.int)) → Same H H' → H p = none → Q (.ref p) H'
section
variable {P : Program} {w : World} {K : PySem.W.Frag} {mg : Str → Option Value} {base : Heap} {A : Adr}
theorem ok_last_places (T : Txt K mg A) : FnOk P w K mg base CX0 1 A.f_last_places A.d_last_places ["row"] (sp_last_places K) := by
  refine T.F_last_places.ok sc_last_places (fun vs H Q E h => ?_) (fun cdv Ar outer s H vs Q E hr h => ?_)
  · obtain ⟨a, ns, rfl, _⟩ := h
    rfl
  · obtain ⟨a, ns, rfl, ha, hl, q⟩ := h
    refine ⟨_, (pss_cons (ps_set (i := 1) sc_last_places.nd rfl (Or.inl rfl) pe_dnewK)
    (pss_cons (ps_set (i := 2) sc_last_places.nd rfl (Or.inl rfl) (pe_lst pa_nil))
    (pss_cons (ps_for PassesOwn.never (by rfl) (pi_enum (by rfl) T.m_enumerate (pa_cons (pv 0) pa_nil)) (pg_tup (by rfl) (pgs_cons (pg_name (i := 3) sc_last_places.nd rfl (Or.inl rfl)) (pgs_cons (pg_name (i := 4) sc_last_places.nd rfl (Or.inl rfl)) pgs_nil))) (pss_cons (ps_expr (pe_bm PySem.F.plainAttrs_list PySem.F.slot_list_append PySem.F.type_list_append mt_append (pv 2) (pa_cons (pe_dget2 (hu_of hr) (pv 1) (pv 4) (pe_un un_neg pe_int) ⟨rfl, rfl, rfl, rfl⟩) pa_nil)))
    (pss_one (ps_dput (hu_of hr) (pv 1) (pv 4) (pv 3) rfl))))
    (pss_one (ps_ret (pv 2)))))), ?_⟩
    tb_start
    intro m nm
    tb_start
    intro l nl
    tb_start
    refine for_enum (xs := ns.map V.int) (fun i σ H' => Iv (∃ (kvs : List (Key × V)) (x y : Option V), σ = [some (.ref a), some (.ref m), some (.ref l), x, y] ∧ H' m = some (.dK kvs) ∧ H' l = some (.lst (((lastP ns).take i).map V.int)) ∧ Same H H' ∧ kvs.length ≤ i ∧ ∀ z : Int, valV kvs (Sum.inl z) = if lastAt ns i z = -1 then none else some (.int (lastAt ns i z)))) ?h0 ?hl ?hs ?hd
    case h0 => exact ⟨[], _, _, rfl, by kct_strs, upd_same, by kcj_in, Nat.le_refl _, fun z => rfl⟩
    case hl =>
      rintro i σ H' hi ⟨kvs, x, y, rfl, hm, hl', s, hk, hv⟩
      kct_strs
    case hs =>
      rintro i x σ H1 H' hx ⟨kvs, u, y, rfl, hm, hl', s, hk, hv⟩ s2
      obtain ⟨n, hn, rfl⟩ := iv_get hx
      have hi := (List.getElem?_eq_some_iff.mp hn).1
      have hg := getD_of hn
      have nlm : l ≠ m := by kcj_m
      have hln := lastP_len ns
      have hr := lastAt_range ns n i
      have hv' : (valV kvs (Sum.inl n)).getD (.int (-1)) = .int (lastAt ns i n) := by
        rw [hv n]
        by_cases e : lastAt ns i n = -1
        · rw [if_pos e, e]; rfl
        · rw [if_neg e]; rfl
      tb_start
      refine ⟨_, _, _, rfl, by kct_strs, lst_cast (by kct_strs) ?_, by kcj_in, ?_, fun z => ?_⟩
      · rw [lastP_take hi, hg, List.map_append]
        exact congrArg (fun v => (List.map V.int (List.take i (lastP ns))) ++ [v]) hv'
      · exact Nat.le_trans (putK_le _ _ _) (by omega)
      · rw [val_put, hv z]
        show _ = if (if ns.getD i 0 = z then (i : Int) else lastAt ns i z) = -1 then none else some (V.int (if ns.getD i 0 = z then (i : Int) else lastAt ns i z))
        rw [hg]
        by_cases e : z = n
        · rw [if_pos e, if_pos e.symm, if_neg (by omega)]
        · have e2 : ¬ n = z := fun h => e h.symm
          simp only [if_neg e, if_neg e2]
    case hd =>
      rintro σ H' ⟨kvs, x, y, rfl, hm, hl', s, hk, hv⟩
      rw [List.length_map, ← lastP_len ns, List.take_length] at hl'
      tb_start
      exact q _ _ hl' s (by cc_off)
end
end Ur
namespace Ur
open PySem L2
/-- the next places, a new list -/
def sp_next_places (K : PySem.W.Frag) : Sp := fun vs H Q _ => ∃ (a : Addr) (ns : List Int), vs = [.ref a] ∧ SqL K H a (ns.map V.int) ∧ ns.length ≤ 1000 ∧ ∀ p H', H' p = some (.lst ((nextP ns).map V.int)) → Same H H' → H p = none → Q (.ref p) H'
section
variable {P : Program} {w : World} {K : PySem.W.Frag} {mg : Str → Option Value} {base : Heap} {A : Adr}
theorem ok_next_places (T : Txt K mg A) : FnOk P w K mg base CX0 2 A.f_next_places A.d_next_places ["row"] (sp_next_places K) := by
  have G_last_places := ok_last_places (P := P) (w := w) (base := base) T
  refine T.F_next_places.ok sc_next_places (fun vs H Q E h => ?_) (fun cdv Ar outer s H vs Q E hr h => ?_)
  · obtain ⟨a, ns, rfl, _⟩ := h
    rfl
  · obtain ⟨a, ns, rfl, ha, hl, q⟩ := h
    refine ⟨_, (pss_cons (ps_set (i := 1) sc_next_places.nd rfl (Or.inl rfl) (pe_op op_rep (pe_lst (pa_cons (Ur.pe_b1 (Ur.call_lenIK (K := K) rfl) (by rfl) T.m_len (by decide +kernel) (pv 0)) pa_nil)) (Ur.pe_b1 (Ur.call_lenIK (K := K) rfl) (by rfl) T.m_len (by decide +kernel) (pv 0))))
    (pss_cons (ps_for PassesOwn.never (by rfl) (pi_enum (by rfl) T.m_enumerate (pa_cons (pe_call G_last_places (hr.mono (by decide)) (by rfl) T.g_last_places T.F_last_places.kp T.b_last_places .nil pass0 (pa_cons (pv 0) pa_nil)) pa_nil)) (pg_tup (by rfl) (pgs_cons (pg_name (i := 2) sc_next_places.nd rfl (Or.inl rfl)) (pgs_cons (pg_name (i := 3) sc_next_places.nd rfl (Or.inl rfl)) pgs_nil))) (pss_one (ps_if (pt_cmpR op_ge (pv 3) pe_int (nomark _)) (pss_one (ps_asg (pv 2) (pg_sub (pv 1) (pv 3) set_list))) pss_nil)))
    (pss_one (ps_ret (pv 1))))), ?_⟩
    tb_start
    intro l0 nl0
    tb_start
    intro l nl
    tb_start
    intro p H2 e2 s2 np
    tb_start
    refine for_enum (xs := (lastP ns).map V.int) (fun i σ H' => Iv (∃ (x y : Option V), σ = [some (.ref a), some (.ref l), x, y] ∧ H' l = some (.lst (((List.range ns.length).map fun k => nextUp ns k i).map V.int)) ∧ H' p = some (.lst ((lastP ns).map V.int)) ∧ Same H H')) ?h0 ?hl ?hs ?hd
    case h0 =>
      refine ⟨_, _, rfl, lst_cast (by kct_strs) ?_, by kct_strs, by kcj_in⟩
      rw [Int.toNat_natCast]
      show _ = List.map V.int ((List.range ns.length).map fun _ => (ns.length : Int))
      rw [List.map_const', List.length_range]
    case hl =>
      rintro i σ H' hi ⟨x, y, rfl, hl', hp, s⟩
      kct_strs
    case hs =>
      rintro i x σ H1 H' hx ⟨u, y, rfl, hl', hp, s⟩ s3
      obtain ⟨n, hn, rfl⟩ := iv_get hx
      have hil : i < ns.length := by
        have h := (List.getElem?_eq_some_iff.mp hn).1
        rw [lastP_len] at h
        exact h
      have e : n = lastAt ns i (ns.getD i 0) := by
        rw [lastP_get hil] at hn
        exact (Option.some.inj hn).symm
      have hr := lastAt_range ns (ns.getD i 0) i
      rw [← e] at hr
      have hml : ((List.range ns.length).map fun k => nextUp ns k i).length = ns.length := by rw [List.length_map, List.length_range]
      have step : ((List.range ns.length).map fun k => nextUp ns k (i + 1)) = if 0 ≤ n then ((List.range ns.length).map fun k => nextUp ns k i).set n.toNat i else (List.range ns.length).map fun k => nextUp ns k i := by
        refine List.ext_getElem? fun k => ?_
        by_cases hk : k < ns.length
        · rw [List.getElem?_map, List.getElem?_range hk]
          show some (nextUp ns k (i + 1)) = _
          rw [nextUp_step hil hk, ← e]
          by_cases h0 : 0 ≤ n
          · rw [if_pos h0, List.getElem?_set, hml]
            by_cases hnk : n = (k : Int)
            · rw [if_pos hnk, if_pos (by omega), if_pos (by omega)]
            · rw [if_neg hnk, if_neg (by omega), List.getElem?_map, List.getElem?_range hk]
              rfl
          · rw [if_neg h0, if_neg (by omega), List.getElem?_map, List.getElem?_range hk]
            rfl
        · rw [List.getElem?_eq_none (by rw [List.length_map, List.length_range]; omega)]
          split
          · rw [List.getElem?_eq_none (by rw [List.length_set, hml]; omega)]
          · rw [List.getElem?_eq_none (by rw [hml]; omega)]
      tb_start
      refine br (fun h => ?_) (fun h => ?_)
      · tb_start
        refine ⟨_, _, rfl, lst_cast (by kct_strs) ?_, by kct_strs, by kcj_in⟩
        rw [step, if_pos h]
      · refine ⟨_, _, rfl, lst_cast (by kct_strs) ?_, by kct_strs, by kcj_in⟩
        rw [step, if_neg h]
    case hd =>
      rintro σ H' ⟨x, y, rfl, hl', hp, s⟩
      tb_start
      refine q _ _ (lst_cast hl' ?_) s (by cc_off)
      rw [List.length_map, lastP_len]
      rfl
end
end Ur
namespace Ur
open PySem L2
/-- made ready -/
def sp_Ready___init__ (K : PySem.W.Frag) (C : Addr) : Sp := fun vs H Q _ => ∃ (o a dx : Addr) (ns : List Int), vs = [.ref o, .ref a] ∧ H o = some (.ins C dx []) ∧ H a = some (.lst (ns.map V.int)) ∧ ns.length ≤ 1000 ∧ ∀ la na H', H' o = some (.ins C dx (rdyF ns.length la na)) → H' la = some (.lst ((lastP ns).map V.int)) → H' na = some (.lst ((nextP ns).map V.int)) → H la = none → H na = none → But o H H' → Q .non H'
section
variable {P : Program} {w : World} {K : PySem.W.Frag} {mg : Str → Option Value} {base : Heap} {A : Adr}
theorem ok_Ready___init__ (T : Txt K mg A) : FnOk P w K mg base CX0 3 A.f_Ready___init__ A.d_Ready___init__ ["self", "row"] (sp_Ready___init__ K A.c_Ready) := by
  have G_last_places := ok_last_places (P := P) (w := w) (base := base) T
  have G_next_places := ok_next_places (P := P) (w := w) (base := base) T
  refine T.F_Ready___init__.ok sc_Ready___init__ (fun vs H Q E h => ?_) (fun cdv Ar outer s H vs Q E hr h => ?_)
  · obtain ⟨o, a, dx, ns, rfl, _⟩ := h
    rfl
  · have C_Ready := T.C_Ready
    have n_Ready_many := T.n_Ready_many
    have n_Ready_lasts := T.n_Ready_lasts
    have n_Ready_nexts := T.n_Ready_nexts
    obtain ⟨o, a, dx, ns, rfl, eo, ha, hl, q⟩ := h
    refine ⟨_, (pss_cons (ps_fld (pv 0) (Ur.pe_b1 (Ur.call_lenIK (K := K) rfl) (by rfl) T.m_len (by decide +kernel) (pv 1)) rfl)
    (pss_cons (ps_fld (pv 0) (pe_call G_last_places (hr.mono (by decide)) (by rfl) T.g_last_places T.F_last_places.kp T.b_last_places .nil pass0 (pa_cons (pv 1) pa_nil)) rfl)
    (pss_one (ps_fld (pv 0) (pe_call G_next_places (hr.mono (by decide)) (by rfl) T.g_next_places T.F_next_places.kp T.b_next_places .nil pass0 (pa_cons (pv 1) pa_nil)) rfl)))), ?_⟩
    tb_start
    intro la H1 e1 s1 f1
    have eo1 := s1 o _ upd_same
    have hf1 := upd_none f1
    repeat (rename H _ = some _ => hx; first | (have hA := Ur.adv0 s1 hx; obtain ⟨hz, hw, hv⟩ := hA; (first | have := hw _ f1 | have := hv _ f1); clear hw hv hx; rename H1 _ = some _ => hq) | (have hA := Ur.adv1 s1 (by kcj_m) hx; obtain ⟨hz, hw, hv⟩ := hA; (first | have := hw _ f1 | have := hv _ f1); clear hw hv hx; rename H1 _ = some _ => hq) | (have hA := Ur.adv2 s1 (by kcj_m) (by kcj_m) hx; obtain ⟨hz, hw, hv⟩ := hA; (first | have := hw _ f1 | have := hv _ f1); clear hw hv hx; rename H1 _ = some _ => hq) | (have hA := Ur.adv3 s1 (by kcj_m) (by kcj_m) (by kcj_m) hx; obtain ⟨hz, hw, hv⟩ := hA; (first | have := hw _ f1 | have := hv _ f1); clear hw hv hx; rename H1 _ = some _ => hq) | (have hA := Ur.adv4 s1 (by kcj_m) (by kcj_m) (by kcj_m) (by kcj_m) hx; obtain ⟨hz, hw, hv⟩ := hA; (first | have := hw _ f1 | have := hv _ f1); clear hw hv hx; rename H1 _ = some _ => hq) | (have hA := Ur.adv5 s1 (by kcj_m) (by kcj_m) (by kcj_m) (by kcj_m) (by kcj_m) hx; obtain ⟨hz, hw, hv⟩ := hA; (first | have := hw _ f1 | have := hv _ f1); clear hw hv hx; rename H1 _ = some _ => hq) | (have hA := Ur.adv6 s1 (by kcj_m) (by kcj_m) (by kcj_m) (by kcj_m) (by kcj_m) (by kcj_m) hx; obtain ⟨hz, hw, hv⟩ := hA; (first | have := hw _ f1 | have := hv _ f1); clear hw hv hx; rename H1 _ = some _ => hq) | (have hA := Ur.adv7 s1 (by kcj_m) (by kcj_m) (by kcj_m) (by kcj_m) (by kcj_m) (by kcj_m) (by kcj_m) hx; obtain ⟨hz, hw, hv⟩ := hA; (first | have := hw _ f1 | have := hv _ f1); clear hw hv hx; rename H1 _ = some _ => hq) | clear hx)
    tb_start
    intro na H2 e2 s2 f2
    have eo2 := s2 o _ upd_same
    have hf2 := upd_none (s1.free (upd_none f2))
    have ho2 : o ≠ na := by kcj_m
    repeat (rename H1 _ = some _ => hx; first | (have hA := Ur.adv0 s2 hx; obtain ⟨hz, hw, hv⟩ := hA; (first | have := hw _ f2 | have := hv _ f2); clear hw hv hx; rename H2 _ = some _ => hq) | (have hA := Ur.adv1 s2 (by kcj_m) hx; obtain ⟨hz, hw, hv⟩ := hA; (first | have := hw _ f2 | have := hv _ f2); clear hw hv hx; rename H2 _ = some _ => hq) | (have hA := Ur.adv2 s2 (by kcj_m) (by kcj_m) hx; obtain ⟨hz, hw, hv⟩ := hA; (first | have := hw _ f2 | have := hv _ f2); clear hw hv hx; rename H2 _ = some _ => hq) | (have hA := Ur.adv3 s2 (by kcj_m) (by kcj_m) (by kcj_m) hx; obtain ⟨hz, hw, hv⟩ := hA; (first | have := hw _ f2 | have := hv _ f2); clear hw hv hx; rename H2 _ = some _ => hq) | (have hA := Ur.adv4 s2 (by kcj_m) (by kcj_m) (by kcj_m) (by kcj_m) hx; obtain ⟨hz, hw, hv⟩ := hA; (first | have := hw _ f2 | have := hv _ f2); clear hw hv hx; rename H2 _ = some _ => hq) | (have hA := Ur.adv5 s2 (by kcj_m) (by kcj_m) (by kcj_m) (by kcj_m) (by kcj_m) hx; obtain ⟨hz, hw, hv⟩ := hA; (first | have := hw _ f2 | have := hv _ f2); clear hw hv hx; rename H2 _ = some _ => hq) | (have hA := Ur.adv6 s2 (by kcj_m) (by kcj_m) (by kcj_m) (by kcj_m) (by kcj_m) (by kcj_m) hx; obtain ⟨hz, hw, hv⟩ := hA; (first | have := hw _ f2 | have := hv _ f2); clear hw hv hx; rename H2 _ = some _ => hq) | (have hA := Ur.adv7 s2 (by kcj_m) (by kcj_m) (by kcj_m) (by kcj_m) (by kcj_m) (by kcj_m) (by kcj_m) hx; obtain ⟨hz, hw, hv⟩ := hA; (first | have := hw _ f2 | have := hv _ f2); clear hw hv hx; rename H2 _ = some _ => hq) | clear hx)
    tb_start
    exact q la na _ (show _ = some (.ins A.c_Ready dx (rdyF _ la na)) from upd_same) (by kct_strs) (by kct_strs) hf1 hf2 (by cc_are)
end
/-- a row made ready, where it is made -/
theorem mk_rdy {K : PySem.W.Frag} {C a x dx : Addr} {H : Hp} {ns : List Int} {R : Hp → Prop} {E : XK} (nx : H x = none) (nd : H dx = none) (ne : dx ≠ x) (ha : H a = some (.lst (ns.map V.int))) (hl : ns.length ≤ 1000)
    (q : ∀ H', Rdy C (fun b => H b ≠ none) H' x ns → Same H H' → R H') :
    sp_Ready___init__ K C ([.ref x, .ref a]) (upd (upd H dx (.own x)) x (.ins C dx [])) (fun v H2 => v = .non ∧ R H2) E := by
  have s1 : Same H (upd (upd H dx (.own x)) x (.ins C dx [])) := same_upd' nx (same_new nd)
  refine ⟨x, a, dx, ns, rfl, upd_same, s1 _ _ ha, hl, fun la na H' e1 e2 e3 n1 n2 b => ⟨rfl, ?_⟩⟩
  have s2 : Same H H' := same_but b nx s1
  refine q H' ⟨dx, la, na, e1, e2, e3, fun b hb => ?_⟩ s2
  refine ⟨fun e => hb (e ▸ nx), fun e => hb (e ▸ s1.free n1), fun e => hb (e ▸ s1.free n2)⟩
end Ur
namespace Ur
open PySem L2
/-- the row made ready -/
def sp_Live_ready (K : PySem.W.Frag) (C CR : Addr) : Sp := fun vs H Q _ => ∃ (L : Addr → Prop) (o pc : Addr) (ns : List Int) (cs : List (Int × Int × List Int)), vs = [.ref o] ∧ Liv C CR L o pc H ns cs ∧ ∀ r H', Rdy CR (Own L o pc) H' r ns → Liv C CR L o pc H' ns cs → Fr o pc H H' → Q (.ref r) H'
section
variable {P : Program} {w : World} {K : PySem.W.Frag} {mg : Str → Option Value} {base : Heap} {A : Adr}
theorem ok_Live_ready (T : Txt K mg A) : FnOk P w K mg base CX0 5 A.f_Live_ready A.d_Live_ready ["self"] (sp_Live_ready K A.c_Live A.c_Ready) := by
  have G_Ready___init__ := ok_Ready___init__ (P := P) (w := w) (base := base) T
  refine T.F_Live_ready.ok sc_Live_ready (fun vs H Q E h => ?_) (fun cdv Ar outer s H vs Q E hr h => ?_)
  · obtain ⟨L, o, pc, ns, cs, rfl, _⟩ := h
    rfl
  · have C_Live := T.C_Live
    have n_Live_numbers := T.n_Live_numbers
    have n_Live_changes := T.n_Live_changes
    have n_Live_made := T.n_Live_made
    obtain ⟨L, o, pc, ns, cs, rfl, v, q⟩ := h
    obtain ⟨dx, pn, mv, eo, en, hpn, hm⟩ := v.obj
    have hnl := v.len
    refine ⟨_, (pss_cons (ps_if (pt_cmpR op_isN (Ur.pe_fldK (K := K) rfl (pv 0) rfl) pe_non (nomark _)) (pss_one (ps_fld (pv 0) (pe_make T.M_Ready G_Ready___init__ (hr.mono (by decide)) (by rfl) T.g_Ready T.b_Ready___init__ .nil pass0 (pa_cons (Ur.pe_fldK (K := K) rfl (pv 0) rfl) pa_nil)) rfl)) pss_nil)
    (pss_one (ps_ret (Ur.pe_fldK (K := K) rfl (pv 0) rfl)))), ?_⟩
    rcases hm with rfl | ⟨ro, rfl, r⟩
    · tb_start
      intro x dx2 nx ndx ne2
      refine mk_rdy (ns := ns) nx ndx ne2 en (by omega) (fun H1 r s1 => ?_)
      obtain ⟨r2, v2, f2⟩ := v.ready eo s1 r
      have eo1 := s1 _ _ eo
      tb_start
      rw [liv_setM]
      tb_start
      exact q x _ r2 v2 f2
    · tb_start
      exact q ro _ r v (fun _ _ _ _ e => e)
end
end Ur
namespace Ur
open PySem L2
/-- whether a thing is a whole number -/
def sp_is_whole (K : PySem.W.Frag) : Sp := fun vs H Q _ => ∃ (v : V) (b : Bool), vs = [v] ∧ IsW H v b ∧ Q (.bl b) H
section
variable {P : Program} {w : World} {K : PySem.W.Frag} {mg : Str → Option Value} {base : Heap} {A : Adr}
theorem ok_is_whole (T : Txt K mg A) : FnOk P w K mg base CX0 1 A.f_is_whole A.d_is_whole ["thing"] (sp_is_whole K) := by
  refine T.F_is_whole.ok sc_is_whole (fun vs H Q E h => ?_) (fun cdv Ar outer s H vs Q E hr h => ?_)
  · obtain ⟨v, b, rfl, _⟩ := h
    rfl
  · obtain ⟨v, b, rfl, hw, q⟩ := h
    refine ⟨_, (pss_one (ps_ret (pe_and (Ur.pe_b2 (Ur.call_isiK (K := K) rfl) (by rfl) T.m_isinstance (by decide +kernel) (pv 0) (pe_bltn (v := .ty "int") (by rfl) T.m_int (by decide +kernel) rfl)) (pe_one (pe_not (Ur.pe_b2 (Ur.call_isiK (K := K) rfl) (by rfl) T.m_isinstance (by decide +kernel) (pv 0) (pe_bltn (v := .ty "bool") (by rfl) T.m_bool (by decide +kernel) rfl))))))), ?_⟩
    rcases hw with ⟨rfl, i, rfl⟩ | ⟨rfl, hk, hn⟩
    · tb_start
      exact q
    · rcases hk with ⟨i, rfl⟩ | ⟨c, rfl⟩ | ⟨x, rfl⟩ | rfl | ⟨p, xs, rfl, hp⟩ | ⟨p, xs, rfl, hp⟩ | ⟨p, xs, rfl, hp⟩
      · exact (hn i rfl).elim
      all_goals
        tb_start
        exact q
end
end Ur
namespace Ur
open PySem L2
/-- a place is let by, another thing is refused -/
def sp_Ready_need_place (K : PySem.W.Frag) (C W : Addr) : Sp := fun vs H Q E => ∃ (L : Addr → Prop) (o : Addr) (v : V) (ns : List Int), vs = [.ref o, v] ∧ Rdy C L H o ns ∧ Kind H v ∧ (∀ p : Int, v = .int p → 0 ≤ p → p ≤ ns.length → Q .non H) ∧ (NoPl ns.length v → E (.ref W) none H)
section
variable {P : Program} {w : World} {K : PySem.W.Frag} {mg : Str → Option Value} {base : Heap} {A : Adr}
theorem ok_Ready_need_place (T : Txt K mg A) : FnOk P w K mg base (L2.CX P w) 2 A.f_Ready_need_place A.d_Ready_need_place ["self", "place"] (sp_Ready_need_place K A.c_Ready A.c_NoWindow) := by
  have G_is_whole := ok_is_whole (P := P) (w := w) (base := base) T
  refine T.F_Ready_need_place.okX sc_Ready_need_place (fun vs H Q E h => ?_) (fun cdv Ar outer s H vs Q E hr h => ?_)
  · obtain ⟨L, o, v, ns, rfl, _⟩ := h
    rfl
  · have C_Ready := T.C_Ready
    have n_Ready_many := T.n_Ready_many
    have n_Ready_lasts := T.n_Ready_lasts
    have n_Ready_nexts := T.n_Ready_nexts
    obtain ⟨L, o, v, ns, rfl, r, hk, qy, qn⟩ := h
    obtain ⟨dx, la, na, eo, el, en, _⟩ := r.all
    refine ⟨_, (pss_one (ps_if (PW.pt (pw_or (pt_not (pt_val (pe_call G_is_whole (hr.mono (by decide)) (by rfl) T.g_is_whole T.F_is_whole.kp T.b_is_whole .nil pass0 (pa_cons (pv 1) pa_nil)))) (pw_or1 (pt_not (pt_chain op_le op_le pe_int (pv 1) (Ur.pe_fldK (K := K) rfl (pv 0) rfl)))))) (pss_one (ps_raise rfl (takes_of rfl rfl rfl rfl) (pmk_own PySem.F.excBase_ValueError T.x_NoWindow T.g_NoWindow T.k_NoWindow (raises_own T.b_NoWindow T.t_NoWindow) (by exact rfl)))) pss_nil)), ?_⟩
    rcases hk.whole with ⟨p, rfl⟩ | ⟨hno, hw⟩
    · by_cases h0 : 0 ≤ p
      · by_cases h1 : p ≤ ns.length
        · tb_start
          exact qy p rfl h0 h1
        · tb_start
          exact qn (.int fun k => h1 k.2)
      · tb_start
        exact qn (.int fun k => h0 k.1)
    · tb_start
      exact qn (fun p e => (hno p e).elim)
end
end Ur
namespace Ur
open PySem L2
/-- a window is let by, other things are refused -/
def sp_Ready_need_window (K : PySem.W.Frag) (C W : Addr) : Sp := fun vs H Q E => ∃ (L : Addr → Prop) (o : Addr) (v w : V) (ns : List Int), vs = [.ref o, v, w] ∧ Rdy C L H o ns ∧ Kind H v ∧ Kind H w ∧ (∀ f b : Int, v = .int f → w = .int b → 0 ≤ f → f ≤ b → b ≤ ns.length → Q .non H) ∧ (NoWin ns.length v w → E (.ref W) none H)
section
variable {P : Program} {w : World} {K : PySem.W.Frag} {mg : Str → Option Value} {base : Heap} {A : Adr}
theorem ok_Ready_need_window (T : Txt K mg A) : FnOk P w K mg base (L2.CX P w) 3 A.f_Ready_need_window A.d_Ready_need_window ["self", "first", "behind"] (sp_Ready_need_window K A.c_Ready A.c_NoWindow) := by
  have G_Ready_need_place := ok_Ready_need_place (P := P) (w := w) (base := base) T
  refine T.F_Ready_need_window.okX sc_Ready_need_window (fun vs H Q E h => ?_) (fun cdv Ar outer s H vs Q E hr h => ?_)
  · obtain ⟨L, o, v, w, ns, rfl, _⟩ := h
    rfl
  · have C_Ready := T.C_Ready
    have n_Ready_many := T.n_Ready_many
    have n_Ready_lasts := T.n_Ready_lasts
    have n_Ready_nexts := T.n_Ready_nexts
    obtain ⟨L, o, v, w, ns, rfl, r, hk, hk2, qy, qn⟩ := h
    obtain ⟨dx, la, na, eo, el, en, _⟩ := r.all
    refine ⟨_, (pss_cons (ps_expr (Ur.pe_methA (pv 0) T.C_Ready T.M_Ready_need_place G_Ready_need_place (hr.mono (by decide)) T.b_Ready_need_place (fun σ => passAt (takes_of rfl rfl rfl rfl) σ) (pa_cons (pv 1) pa_nil)))
    (pss_cons (ps_expr (Ur.pe_methA (pv 0) T.C_Ready T.M_Ready_need_place G_Ready_need_place (hr.mono (by decide)) T.b_Ready_need_place (fun σ => passAt (takes_of rfl rfl rfl rfl) σ) (pa_cons (pv 2) pa_nil)))
    (pss_one (ps_if (pt_cmpR op_gt (pv 1) (pv 2) (nomark _)) (pss_one (ps_raise rfl (takes_of rfl rfl rfl rfl) (pmk_own PySem.F.excBase_ValueError T.x_NoWindow T.g_NoWindow T.k_NoWindow (raises_own T.b_NoWindow T.t_NoWindow) (by exact rfl)))) pss_nil)))), ?_⟩
    tb_start
    · exact fun hn => qn hn.winL
    intro f rfl h0 h1
    tb_start
    · exact fun hn => qn hn.winR
    intro b rfl h2 h3
    by_cases h4 : f ≤ b
    · tb_start
      exact qy f b rfl rfl h0 h4 h3
    · tb_start
      exact qn (.ints fun k => h4 k.2.1)
end
end Ur
namespace Ur
open PySem L2
/-- the first places of a window, a new list; other things are refused -/
def sp_Ready_firsts (K : PySem.W.Frag) (C W : Addr) : Sp := fun vs H Q E => ∃ (L : Addr → Prop) (o : Addr) (v w : V) (ns : List Int), vs = [.ref o, v, w] ∧ Rdy C L H o ns ∧ Kind H v ∧ Kind H w ∧ ns.length ≤ 1000 ∧ (∀ f b : Int, v = .int f → w = .int b → 0 ≤ f → f ≤ b → b ≤ ns.length → ∀ p H', H' p = some (.lst ((firP ns f b).map V.int)) → Same H H' → H p = none → Q (.ref p) H') ∧ (NoWin ns.length v w → E (.ref W) none H)
section
variable {P : Program} {w : World} {K : PySem.W.Frag} {mg : Str → Option Value} {base : Heap} {A : Adr}
theorem ok_Ready_firsts (T : Txt K mg A) : FnOk P w K mg base (L2.CX P w) 4 A.f_Ready_firsts A.d_Ready_firsts ["self", "first", "behind"] (sp_Ready_firsts K A.c_Ready A.c_NoWindow) := by
  have G_Ready_need_window := ok_Ready_need_window (P := P) (w := w) (base := base) T
  refine T.F_Ready_firsts.okX sc_Ready_firsts (fun vs H Q E h => ?_) (fun cdv Ar outer s H vs Q E hr h => ?_)
  · obtain ⟨L, o, v, w, ns, rfl, _⟩ := h
    rfl
  · have C_Ready := T.C_Ready
    have n_Ready_many := T.n_Ready_many
    have n_Ready_lasts := T.n_Ready_lasts
    have n_Ready_nexts := T.n_Ready_nexts
    obtain ⟨L, o, v, w, ns, rfl, r, hk, hk2, hl, qy, qn⟩ := h
    obtain ⟨dx, la, na, eo, el, en, _⟩ := r.all
    have hlp := lastP_len ns
    refine ⟨_, (pss_cons (ps_expr (Ur.pe_methA (pv 0) T.C_Ready T.M_Ready_need_window G_Ready_need_window (hr.mono (by decide)) T.b_Ready_need_window (fun σ => passAt (takes_of rfl rfl rfl rfl) σ) (pa_cons (pv 1) (pa_cons (pv 2) pa_nil))))
    (pss_one (ps_ret (pe_lc (own := [("place", 3)]) (g := gName 3) (by rfl) sc_Ready_firsts.nd (pi_range2 (by rfl) T.m_range (pa_cons (pv 1) (pa_cons (pv 2) pa_nil))) (blkOk_by (own := [("place", 3)]) (N := ["self", "first", "behind", "place"]) (by kernel_rfl)) (fun _ _ _ _ _ => pg_name (i := 3) sc_Ready_firsts.nd rfl (Or.inl rfl)) (fun _ _ _ _ _ => pts_one (pt_cmpR op_lt (pe_ix (Ur.ix_listK (K := K) rfl) (Ur.pe_fldK (K := K) rfl (pv 0) rfl) (pv 3) (fun _ _ => rfl)) (pv 1) (nomark _))) (fun _ _ _ _ _ => (pv 3)))))), ?_⟩
    tb_start
    · exact qn
    intro f b rfl rfl h0 h1 h2
    have q := qy f b rfl rfl h0 h1 h2
    tb_start
    intro D nD
    refine lc_rngIfI (fun k => decide (lp ns (f.toNat + k) < f)) (fun k => f + (k : Nat)) (by omega) nD (fun _ => rfl) ?ht ?he ?hd
    case ht =>
      intro k H' hk s Q2 q2
      have e : (lastP ns).getD (f + (k : Int)).toNat 0 = lp ns (f.toNat + k) := by
        rw [show (f + (k : Int)).toNat = f.toNat + k from by omega]
        exact lastP_getD (by omega)
      have eo' := s _ _ eo
      have el' := s _ _ el
      tb_start
      exact qbl (q2 _ (by kcj_in)) (by rw [e])
    case he =>
      intro k H' hk _ s Q2 q2
      tb_start
      exact q2 _ (by kcj_in)
    case hd =>
      intro H' s e
      exact q _ _ e (by kcj_in) nD
end
end Ur
namespace Ur
open PySem L2
/-- as the row made ready answers; another thing is refused -/
def sp_Live_firsts (K : PySem.W.Frag) (C CR W : Addr) : Sp := fun vs H Q E => ∃ (o : Addr) (x y : V), vs = [.ref o, x, y] ∧ ((∃ (L : Addr → Prop) (pc : Addr) (ns : List Int) (cs : List (Int × Int × List Int)) (f b : Int), x = .int f ∧ y = .int b ∧ Liv C CR L o pc H ns cs ∧ 0 ≤ f ∧ f ≤ b ∧ b ≤ ns.length ∧ ∀ p H', H' p = some (.lst ((firP ns f b).map V.int)) → H p = none → p ≠ o → p ≠ pc → Liv C CR L o pc H' ns cs → Liv C CR (fun b => L b ∨ b = p) o pc H' ns cs → Fr o pc H H' → Q (.ref p) H') ∨ (∃ (L : Addr → Prop) (pc : Addr) (ns : List Int) (cs : List (Int × Int × List Int)), Liv C CR L o pc H ns cs ∧ (∀ H', Liv C CR L o pc H' ns cs → Fr o pc H H' → Kind H' x ∧ Kind H' y) ∧ NoWin ns.length x y ∧ ∀ H', Liv C CR L o pc H' ns cs → Fr o pc H H' → E (.ref W) none H'))
section
variable {P : Program} {w : World} {K : PySem.W.Frag} {mg : Str → Option Value} {base : Heap} {A : Adr}
theorem ok_Live_firsts (T : Txt K mg A) : FnOk P w K mg base (L2.CX P w) 6 A.f_Live_firsts A.d_Live_firsts ["self", "first", "behind"] (sp_Live_firsts K A.c_Live A.c_Ready A.c_NoWindow) := by
  have G_Live_ready := ok_Live_ready (P := P) (w := w) (base := base) T
  have G_Ready_firsts := ok_Ready_firsts (P := P) (w := w) (base := base) T
  refine T.F_Live_firsts.okX sc_Live_firsts (fun vs H Q E h => ?_) (fun cdv Ar outer s H vs Q E hr h => ?_)
  · obtain ⟨o, x, y, rfl, _⟩ := h
    rfl
  · have C_Live := T.C_Live
    have n_Live_numbers := T.n_Live_numbers
    have n_Live_changes := T.n_Live_changes
    have n_Live_made := T.n_Live_made
    obtain ⟨o, x, y, rfl, h⟩ := h
    refine ⟨_, (pss_one (ps_ret (Ur.pe_methA (pe_meth0 (pv 0) T.C_Live T.M_Live_ready G_Live_ready (hr.mono (by decide)) T.b_Live_ready .nil pass0) T.C_Ready T.M_Ready_firsts G_Ready_firsts (hr.mono (by decide)) T.b_Ready_firsts (fun σ => passAt (takes_of rfl rfl rfl rfl) σ) (pa_cons (pv 1) (pa_cons (pv 2) pa_nil))))), ?_⟩
    rcases h with ⟨L, pc, ns, cs, f, b, rfl, rfl, v, h0, h1, h2, q⟩ | ⟨L, pc, ns, cs, lv, hk, hn, q⟩
    · skip
      obtain ⟨dx, pn, mv, eo, en, _, _⟩ := v.obj
      have hnl := v.len
      tb_start
      intro r H1 r1 v1 f1
      obtain ⟨dx1, la, na, eo1, _, _, _⟩ := r1.all
      obtain ⟨dx2, pn2, mv2, eo2, _, _, _⟩ := v1.obj
      obtain ⟨ts2, ec2, _, _⟩ := v1.chs
      obtain ⟨ts0, ec0, _, _⟩ := v.chs
      tb_start
      · exact fun hw => (hw f b rfl rfl ⟨h0, h1, h2⟩).elim
      intro f' b' ef' eb' _ _ _
      cases ef'
      cases eb'
      intro p H2 e2 s2 n2
      have hpo : p ≠ o := fun e => by rw [e, eo2] at n2; cases n2
      have hpc : p ≠ pc := fun e => by rw [e, ec2] at n2; cases n2
      have np : H p = none := by
        cases k : H p with
        | none => rfl
        | some w => rw [f1 _ _ hpo hpc k] at n2; cases n2
      exact q p _ e2 np hpo hpc (v1.same s2) (v1.add n2 s2 e2) (f1.trans (Fr.same s2))
    · obtain ⟨dx, pn, mv, eo, en, _, _⟩ := lv.obj
      have hnl := lv.len
      tb_start
      intro r H1 r1 v1 f1
      obtain ⟨dx1, la, na, eo1, _, _, _⟩ := r1.all
      obtain ⟨kx, ky⟩ := hk _ v1 f1
      have qq := q _ v1 f1
      tb_start
      · exact fun _ => qq
      · exact fun f b e1 e2 h0 h1 h2 => (hn f b e1 e2 ⟨h0, h1, h2⟩).elim
end
end Ur
namespace Ur
open PySem L2
/-- a number put in; another thing is refused -/
def sp_Live_put (K : PySem.W.Frag) (C W : Addr) : Sp := fun vs H Q E => ∃ (o : Addr) (v : V) (x : Int), vs = [.ref o, v, .int x] ∧ ((∃ (L : Addr → Prop) (CR pc : Addr) (ns : List Int) (cs : List (Int × Int × List Int)) (p : Int), v = .int p ∧ Liv C CR L o pc H ns cs ∧ 0 ≤ p ∧ p ≤ ns.length ∧ ns.length + 1 ≤ 1000 ∧ cs.length + 1 ≤ 10000 ∧ ∀ H', Liv C CR L o pc H' (layd ns p 0 [x]) (cs ++ [(p, 1, gone ns p 0)]) → Fr o pc H H' → Q .non H') ∨ (∃ (L : Addr → Prop) (CR pc : Addr) (ns : List Int) (cs : List (Int × Int × List Int)), Liv C CR L o pc H ns cs ∧ Kind H v ∧ (∀ p : Int, v = .int p → ¬ (0 ≤ p ∧ p ≤ (ns.length : Int))) ∧ E (.ref W) none H))
section
variable {P : Program} {w : World} {K : PySem.W.Frag} {mg : Str → Option Value} {base : Heap} {A : Adr}
theorem ok_Live_put (T : Txt K mg A) : FnOk P w K mg base (L2.CX P w) 3 A.f_Live_put A.d_Live_put ["self", "place", "number"] (sp_Live_put K A.c_Live A.c_NoPlace) := by
  have G_Live_need_place := ok_Live_need_place (P := P) (w := w) (base := base) T
  have G_Live_noted := ok_Live_noted (P := P) (w := w) (base := base) T
  refine T.F_Live_put.okX sc_Live_put (fun vs H Q E h => ?_) (fun cdv Ar outer s H vs Q E hr h => ?_)
  · obtain ⟨o, v, x, rfl, _⟩ := h
    rfl
  · have C_Live := T.C_Live
    have n_Live_numbers := T.n_Live_numbers
    have n_Live_changes := T.n_Live_changes
    have n_Live_made := T.n_Live_made
    obtain ⟨o, v, x, rfl, h⟩ := h
    refine ⟨_, (pss_cons (ps_expr (Ur.pe_methA (pv 0) T.C_Live T.M_Live_need_place G_Live_need_place (hr.mono (by decide)) T.b_Live_need_place (fun σ => passAt (takes_of rfl rfl rfl rfl) σ) (pa_cons (pv 1) (pa_cons (Ur.pe_b1 (Ur.call_lenIK (K := K) rfl) (by rfl) T.m_len (by decide +kernel) (Ur.pe_fldK (K := K) rfl (pv 0) rfl)) pa_nil))))
    (pss_one (ps_expr (pe_meth (pv 0) T.C_Live T.M_Live_noted G_Live_noted (hr.mono (by decide)) T.b_Live_noted .nil pass0 (pa_cons (pv 1) (pa_cons pe_int (pa_cons (pe_lst (pa_cons (pv 2) pa_nil)) pa_nil))))))), ?_⟩
    rcases h with ⟨L, CR, pc, ns, cs, p, rfl, v, h0, h1, hl1, hc, q⟩ | ⟨L, CR, pc, ns, cs, lv, hk, hn, q⟩
    · skip
      obtain ⟨dx, pn, mv, eo, en, _, _⟩ := v.obj
      obtain ⟨ts, ec, htl, _⟩ := v.chs
      have hnl := v.len
      have hno := v.ne
      tb_start
      intro b nb
      have s1 : Same H (upd H b (.lst [.int x])) := same_new nb
      have eb : (upd H b (.lst [.int x])) b = some (.lst (([x] : List Int).map V.int)) := upd_same
      have eo1 := s1 _ _ eo
      have en1 := s1 _ _ en
      have ec1 := s1 _ _ ec
      have v1 := v.same s1
      generalize (upd H b (.lst [.int x])) = H1 at *
      have hlx : ([x] : List Int).length = 1 := rfl
      tb_start
      intro g r t H2 e1 e2 e3 e4 e5 ng nr nt f
      have hll := layd_len (ns := ns) (gs := [x]) (p := p) (m := 0) h0 (by omega) (by omega)
      rw [hlx] at hll
      have v2 := v1.note ec1 e1 e2 e3 e4 e5 ng nr nt f (by omega) hc
      tb_start
      exact q _ v2 ((Fr.same s1).trans f)
    · obtain ⟨dx, pn, mv, eo, en, _, _⟩ := lv.obj
      have hnl := lv.len
      tb_start
      refine .inr ?_
      tb_start
      exact q
end
end Ur
namespace Ur
open PySem L2
/-- a number taken out: tells it; another thing is refused -/
def sp_Live_take (K : PySem.W.Frag) (C W : Addr) : Sp := fun vs H Q E => ∃ (o : Addr) (v : V), vs = [.ref o, v] ∧ ((∃ (L : Addr → Prop) (CR pc : Addr) (ns : List Int) (cs : List (Int × Int × List Int)) (p : Int), v = .int p ∧ Liv C CR L o pc H ns cs ∧ 0 ≤ p ∧ p < ns.length ∧ cs.length + 1 ≤ 10000 ∧ ∀ H', Liv C CR L o pc H' (layd ns p 1 []) (cs ++ [(p, 0, gone ns p 1)]) → Fr o pc H H' → Q (.int (ns.getD p.toNat 0)) H') ∨ (∃ (L : Addr → Prop) (CR pc : Addr) (ns : List Int) (cs : List (Int × Int × List Int)), Liv C CR L o pc H ns cs ∧ Kind H v ∧ (∀ p : Int, v = .int p → ¬ (0 ≤ p ∧ p ≤ ((ns.length : Int) - 1))) ∧ E (.ref W) none H))
section
variable {P : Program} {w : World} {K : PySem.W.Frag} {mg : Str → Option Value} {base : Heap} {A : Adr}
theorem ok_Live_take (T : Txt K mg A) : FnOk P w K mg base (L2.CX P w) 3 A.f_Live_take A.d_Live_take ["self", "place"] (sp_Live_take K A.c_Live A.c_NoPlace) := by
  have G_Live_need_place := ok_Live_need_place (P := P) (w := w) (base := base) T
  have G_Live_noted := ok_Live_noted (P := P) (w := w) (base := base) T
  refine T.F_Live_take.okX sc_Live_take (fun vs H Q E h => ?_) (fun cdv Ar outer s H vs Q E hr h => ?_)
  · obtain ⟨o, v, rfl, _⟩ := h
    rfl
  · have C_Live := T.C_Live
    have n_Live_numbers := T.n_Live_numbers
    have n_Live_changes := T.n_Live_changes
    have n_Live_made := T.n_Live_made
    obtain ⟨o, v, rfl, h⟩ := h
    refine ⟨_, (pss_cons (ps_expr (Ur.pe_methA (pv 0) T.C_Live T.M_Live_need_place G_Live_need_place (hr.mono (by decide)) T.b_Live_need_place (fun σ => passAt (takes_of rfl rfl rfl rfl) σ) (pa_cons (pv 1) (pa_cons (pe_op op_sub (Ur.pe_b1 (Ur.call_lenIK (K := K) rfl) (by rfl) T.m_len (by decide +kernel) (Ur.pe_fldK (K := K) rfl (pv 0) rfl)) pe_int) pa_nil))))
    (pss_one (ps_ret (pe_ix (Ur.ix_listK (K := K) rfl) (pe_meth (pv 0) T.C_Live T.M_Live_noted G_Live_noted (hr.mono (by decide)) T.b_Live_noted .nil pass0 (pa_cons (pv 1) (pa_cons pe_int (pa_cons (pe_lst pa_nil) pa_nil)))) pe_int (fun _ _ => rfl))))), ?_⟩
    rcases h with ⟨L, CR, pc, ns, cs, p, rfl, v, h0, h1, hc, q⟩ | ⟨L, CR, pc, ns, cs, lv, hk, hn, q⟩
    · skip
      obtain ⟨dx, pn, mv, eo, en, _, _⟩ := v.obj
      obtain ⟨ts, ec, htl, _⟩ := v.chs
      have hnl := v.len
      have hno := v.ne
      tb_start
      intro b nb
      have s1 : Same H (upd H b (.lst [])) := same_new nb
      have eb : (upd H b (.lst [])) b = some (.lst (([] : List Int).map V.int)) := upd_same
      have eo1 := s1 _ _ eo
      have en1 := s1 _ _ en
      have ec1 := s1 _ _ ec
      have v1 := v.same s1
      generalize (upd H b (.lst [])) = H1 at *
      have hlx : ([] : List Int).length = 0 := rfl
      tb_start
      intro g r t H2 e1 e2 e3 e4 e5 ng nr nt f
      have hll := layd_len (ns := ns) (gs := []) (p := p) (m := 1) h0 (by omega) (by omega)
      rw [hlx] at hll
      have v2 := v1.note ec1 e1 e2 e3 e4 e5 ng nr nt f (by omega) hc
      have hg0 : gone ns p 1 = [ns.getD p.toNat 0] := by
        unfold gone
        show (ns.drop p.toNat).take 1 = _
        rw [List.drop_eq_getElem_cons (by omega), List.getD_eq_getElem?_getD, List.getElem?_eq_getElem (by omega)]
        rfl
      rw [hg0] at e1
      tb_start
      exact q _ v2 ((Fr.same s1).trans f)
    · obtain ⟨dx, pn, mv, eo, en, _, _⟩ := lv.obj
      have hnl := lv.len
      tb_start
      refine .inr ?_
      tb_start
      exact q
end
end Ur
namespace Ur
open PySem L2
/-- how many unlike numbers a window has; other things are refused -/
def sp_Ready_unlike (K : PySem.W.Frag) (C W : Addr) : Sp := fun vs H Q E => ∃ (L : Addr → Prop) (o : Addr) (v w : V) (ns : List Int), vs = [.ref o, v, w] ∧ Rdy C L H o ns ∧ Kind H v ∧ Kind H w ∧ ns.length ≤ 1000 ∧ (∀ f b : Int, v = .int f → w = .int b → 0 ≤ f → f ≤ b → b ≤ ns.length → ∀ H', Same H H' → Q (.int (wun ns f b : Nat)) H') ∧ (NoWin ns.length v w → E (.ref W) none H)
section
variable {P : Program} {w : World} {K : PySem.W.Frag} {mg : Str → Option Value} {base : Heap} {A : Adr}
theorem ok_Ready_unlike (T : Txt K mg A) : FnOk P w K mg base (L2.CX P w) 4 A.f_Ready_unlike A.d_Ready_unlike ["self", "first", "behind"] (sp_Ready_unlike K A.c_Ready A.c_NoWindow) := by
  have G_Ready_need_window := ok_Ready_need_window (P := P) (w := w) (base := base) T
  refine T.F_Ready_unlike.okX sc_Ready_unlike (fun vs H Q E h => ?_) (fun cdv Ar outer s H vs Q E hr h => ?_)
  · obtain ⟨L, o, v, w, ns, rfl, _⟩ := h
    rfl
  · have C_Ready := T.C_Ready
    have n_Ready_many := T.n_Ready_many
    have n_Ready_lasts := T.n_Ready_lasts
    have n_Ready_nexts := T.n_Ready_nexts
    obtain ⟨L, o, v, w, ns, rfl, r, hk, hk2, hl, qy, qn⟩ := h
    obtain ⟨dx, la, na, eo, el, en, _⟩ := r.all
    have hlp := lastP_len ns
    refine ⟨_, (pss_cons (ps_expr (Ur.pe_methA (pv 0) T.C_Ready T.M_Ready_need_window G_Ready_need_window (hr.mono (by decide)) T.b_Ready_need_window (fun σ => passAt (takes_of rfl rfl rfl rfl) σ) (pa_cons (pv 1) (pa_cons (pv 2) pa_nil))))
    (pss_one (ps_ret (Ur.pe_b1 (Ur.call_lenIK (K := K) rfl) (by rfl) T.m_len (by decide +kernel) (pe_lc (own := [("last", 3)]) (g := gName 3) (by rfl) sc_Ready_unlike.nd (pi_list (pe_slice (Ur.sl_listK (K := K) rfl) (Ur.pe_fldK (K := K) rfl (pv 0) rfl) (po_some (pv 1)) (po_some (pv 2)))) (blkOk_by (own := [("last", 3)]) (N := ["self", "first", "behind", "last"]) (by kernel_rfl)) (fun _ _ _ _ _ => pg_name (i := 3) sc_Ready_unlike.nd rfl (Or.inl rfl)) (fun _ _ _ _ _ => pts_one (pt_cmpR op_lt (pv 3) (pv 1) (nomark _))) (fun _ _ _ _ _ => (pv 3))))))), ?_⟩
    tb_start
    · exact qn
    intro f b rfl rfl h0 h1 h2
    have q := qy f b rfl rfl h0 h1 h2
    tb_start
    intro p np
    tb_start
    intro D nD
    have hwl : (((lastP ns).drop f.toNat).take (b.toNat - f.toNat)).length ≤ 1000 := by rw [List.length_take, List.length_drop]; omega
    refine lc_intsIfI (ns := ((lastP ns).drop f.toNat).take (b.toNat - f.toNat)) (fun x => decide (x < f)) (fun x => x) (by omega) (by kct_strs) nD (fun _ => rfl) ?ht ?he ?hd
    case ht =>
      intro x H' hx s Q2 q2
      tb_start
      exact q2 _ (by kcj_in)
    case he =>
      intro x H' hx ht s Q2 q2
      tb_start
      exact q2 _ (by kcj_in)
    case hd =>
      intro H' s e
      tb_start
      rw [List.length_map, wun_lasts h0 h1 h2]
      exact q _ (by kcj_in)
end
end Ur
namespace Ur
open PySem L2
/-- as the row made ready answers; another thing is refused -/
def sp_Live_unlike (K : PySem.W.Frag) (C CR W : Addr) : Sp := fun vs H Q E => ∃ (o : Addr) (x y : V), vs = [.ref o, x, y] ∧ ((∃ (L : Addr → Prop) (pc : Addr) (ns : List Int) (cs : List (Int × Int × List Int)) (f b : Int), x = .int f ∧ y = .int b ∧ Liv C CR L o pc H ns cs ∧ 0 ≤ f ∧ f ≤ b ∧ b ≤ ns.length ∧ ∀ H', Liv C CR L o pc H' ns cs → Fr o pc H H' → Q (.int (wun ns f b : Nat)) H') ∨ (∃ (L : Addr → Prop) (pc : Addr) (ns : List Int) (cs : List (Int × Int × List Int)), Liv C CR L o pc H ns cs ∧ (∀ H', Liv C CR L o pc H' ns cs → Fr o pc H H' → Kind H' x ∧ Kind H' y) ∧ NoWin ns.length x y ∧ ∀ H', Liv C CR L o pc H' ns cs → Fr o pc H H' → E (.ref W) none H'))
section
variable {P : Program} {w : World} {K : PySem.W.Frag} {mg : Str → Option Value} {base : Heap} {A : Adr}
theorem ok_Live_unlike (T : Txt K mg A) : FnOk P w K mg base (L2.CX P w) 6 A.f_Live_unlike A.d_Live_unlike ["self", "first", "behind"] (sp_Live_unlike K A.c_Live A.c_Ready A.c_NoWindow) := by
  have G_Live_ready := ok_Live_ready (P := P) (w := w) (base := base) T
  have G_Ready_unlike := ok_Ready_unlike (P := P) (w := w) (base := base) T
  refine T.F_Live_unlike.okX sc_Live_unlike (fun vs H Q E h => ?_) (fun cdv Ar outer s H vs Q E hr h => ?_)
  · obtain ⟨o, x, y, rfl, _⟩ := h
    rfl
  · have C_Live := T.C_Live
    have n_Live_numbers := T.n_Live_numbers
    have n_Live_changes := T.n_Live_changes
    have n_Live_made := T.n_Live_made
    obtain ⟨o, x, y, rfl, h⟩ := h
    refine ⟨_, (pss_one (ps_ret (Ur.pe_methA (pe_meth0 (pv 0) T.C_Live T.M_Live_ready G_Live_ready (hr.mono (by decide)) T.b_Live_ready .nil pass0) T.C_Ready T.M_Ready_unlike G_Ready_unlike (hr.mono (by decide)) T.b_Ready_unlike (fun σ => passAt (takes_of rfl rfl rfl rfl) σ) (pa_cons (pv 1) (pa_cons (pv 2) pa_nil))))), ?_⟩
    rcases h with ⟨L, pc, ns, cs, f, b, rfl, rfl, v, h0, h1, h2, q⟩ | ⟨L, pc, ns, cs, lv, hk, hn, q⟩
    · skip
      obtain ⟨dx, pn, mv, eo, en, _, _⟩ := v.obj
      have hnl := v.len
      tb_start
      intro r H1 r1 v1 f1
      obtain ⟨dx1, la, na, eo1, _, _, _⟩ := r1.all
      tb_start
      · exact fun hw => (hw f b rfl rfl ⟨h0, h1, h2⟩).elim
      intro f' b' ef' eb' _ _ _
      cases ef'
      cases eb'
      intro H2 s2
      exact q _ (v1.same s2) (f1.trans (Fr.same s2))
    · obtain ⟨dx, pn, mv, eo, en, _, _⟩ := lv.obj
      have hnl := lv.len
      tb_start
      intro r H1 r1 v1 f1
      obtain ⟨dx1, la, na, eo1, _, _, _⟩ := r1.all
      obtain ⟨kx, ky⟩ := hk _ v1 f1
      have qq := q _ v1 f1
      tb_start
      · exact fun _ => qq
      · exact fun f b e1 e2 h0 h1 h2 => (hn f b e1 e2 ⟨h0, h1, h2⟩).elim
end
end Ur
namespace Ur
open PySem L2
/-- which refusal comes -/
def sp__law_caught (K : PySem.W.Frag) (C CR : Addr) : Sp := fun vs H Q _ => ∃ (L : Addr → Prop) (o pc : Addr) (ns : List Int) (cs : List (Int × Int × List Int)) (way : Int) (v w : V), vs = [.ref o, .int way, v, w] ∧ Liv C CR L o pc H ns cs ∧ Kind H v ∧ Kind H w ∧ (∀ H', Liv C CR L o pc H' ns cs → Fr o pc H H' → Kind H' v ∧ Kind H' w) ∧ (((way = 0 ∨ way = 2) ∧ (∀ p : Int, v = .int p → ¬ (0 ≤ p ∧ p ≤ (ns.length : Int) - 1)) ∧ (∃ x : Int, w = .int x) ∧ ∀ H', Liv C CR L o pc H' ns cs → Fr o pc H H' → Q (.int 0) H') ∨ (way = 1 ∧ (∀ p : Int, v = .int p → ¬ (0 ≤ p ∧ p ≤ (ns.length : Int))) ∧ (∃ x : Int, w = .int x) ∧ ∀ H', Liv C CR L o pc H' ns cs → Fr o pc H H' → Q (.int 0) H') ∨ ((way = 3 ∨ way = 4) ∧ NoWin ns.length v w ∧ ∀ H', Liv C CR L o pc H' ns cs → Fr o pc H H' → Q (.int 1) H'))
section
variable {P : Program} {w : World} {K : PySem.W.Frag} {mg : Str → Option Value} {base : Heap} {A : Adr}
theorem ok__law_caught (T : Txt K mg A) : FnOk P w K mg base CX0 7 A.f__law_caught A.d__law_caught ["live", "way", "one", "other"] (sp__law_caught K A.c_Live A.c_Ready) := by
  have G_Live_change := ok_Live_change (P := P) (w := w) (base := base) T
  have G_Live_firsts := ok_Live_firsts (P := P) (w := w) (base := base) T
  have G_Live_put := ok_Live_put (P := P) (w := w) (base := base) T
  have G_Live_take := ok_Live_take (P := P) (w := w) (base := base) T
  have G_Live_unlike := ok_Live_unlike (P := P) (w := w) (base := base) T
  refine T.F__law_caught.ok sc__law_caught (fun vs H Q E h => ?_) (fun cdv Ar outer s H vs Q E hr h => ?_)
  · obtain ⟨L, o, pc, ns, cs, way, v, w, rfl, _⟩ := h
    rfl
  · have C_Live := T.C_Live
    have n_Live_numbers := T.n_Live_numbers
    have n_Live_changes := T.n_Live_changes
    have n_Live_made := T.n_Live_made
    obtain ⟨L, o, pc, ns, cs, way, v, w, rfl, lv, hk, hk2, hkk, hb⟩ := h
    obtain ⟨dx, pn, mv, eo, en, _, _⟩ := lv.obj
    have hnl := lv.len
    have hE := T.E_NoPlace
    have q1 := T.q_NoPlace_NoPlace
    have q2 := T.q_NoPlace_NoWindow
    have q2v := T.q_NoPlace_ValueError
    have hF := T.E_NoWindow
    have q4 := T.q_NoWindow_NoWindow
    have q5 := T.q_NoWindow_NoPlace
    have q5v := T.q_NoWindow_ValueError
    have q3 : NoneOf K A.c_NoPlace [A.c_NoCommand, A.c_NoNeeds, A.c_NoRow, A.c_NoTable] := .cons T.q_NoPlace_NoCommand (.cons T.q_NoPlace_NoNeeds (.cons T.q_NoPlace_NoRow (.cons T.q_NoPlace_NoTable .nil)))
    have q6 : NoneOf K A.c_NoWindow [A.c_NoCommand, A.c_NoNeeds, A.c_NoRow, A.c_NoTable] := .cons T.q_NoWindow_NoCommand (.cons T.q_NoWindow_NoNeeds (.cons T.q_NoWindow_NoRow (.cons T.q_NoWindow_NoTable .nil)))
    refine ⟨_, (pss_cons (ps_set (i := 4) sc__law_caught.nd rfl (Or.inl rfl) pe_int)
    (pss_cons (ps_try_as (i := 5) rfl rfl sc__law_caught.nd rfl rfl ⟨rfl, by decide, .inl T.g_RowError⟩ takes0 (fun W pn xe tk po => (pss_one (ps_if (pt_cmpR op_eq (pv 1) pe_int (nomark _)) (pss_one (ps_expr (Ur.pe_methA (pv 0) T.C_Live T.M_Live_change G_Live_change (hr.mono (by decide)) T.b_Live_change (fun σ => passAt tk σ) (pa_cons (pv 2) (pa_cons (pv 3) pa_nil))))) (pss_one (ps_if (pt_cmpR op_eq (pv 1) pe_int (nomark _)) (pss_one (ps_expr (Ur.pe_methA (pv 0) T.C_Live T.M_Live_put G_Live_put (hr.mono (by decide)) T.b_Live_put (fun σ => passAt tk σ) (pa_cons (pv 2) (pa_cons (pv 3) pa_nil))))) (pss_one (ps_if (pt_cmpR op_eq (pv 1) pe_int (nomark _)) (pss_one (ps_expr (Ur.pe_methA (pv 0) T.C_Live T.M_Live_take G_Live_take (hr.mono (by decide)) T.b_Live_take (fun σ => passAt tk σ) (pa_cons (pv 2) pa_nil)))) (pss_one (ps_if (pt_cmpR op_eq (pv 1) pe_int (nomark _)) (pss_one (ps_expr (Ur.pe_methA (pv 0) T.C_Live T.M_Live_unlike G_Live_unlike (hr.mono (by decide)) T.b_Live_unlike (fun σ => passAt tk σ) (pa_cons (pv 2) (pa_cons (pv 3) pa_nil))))) (pss_one (ps_expr (Ur.pe_methA (pv 0) T.C_Live T.M_Live_firsts G_Live_firsts (hr.mono (by decide)) T.b_Live_firsts (fun σ => passAt tk σ) (pa_cons (pv 2) (pa_cons (pv 3) pa_nil)))))))))))))) (fun ea oe cls d pn hz hf => (pss_cons (ps_set (i := 6) sc__law_caught.nd rfl (Or.inl rfl) (pe_lst (pa_cons (Ur.pe_b2 (Ur.call_isX (K := K) (by rfl) (a := ea) hz hf (by exact List.mem_cons_self)) (by rfl) T.m_isinstance (by decide +kernel) (pv 5) (pe_glob (v := .ref A.c_NoPlace) (by rfl) T.g_NoPlace rfl)) (pa_cons (Ur.pe_b2 (Ur.call_isX (K := K) (by rfl) (a := ea) hz hf (by exact List.mem_cons_self)) (by rfl) T.m_isinstance (by decide +kernel) (pv 5) (pe_glob (v := .ref A.c_NoWindow) (by rfl) T.g_NoWindow rfl)) pa_nil))))
    (pss_cons (ps_set (i := 7) sc__law_caught.nd rfl (Or.inl rfl) (pe_or (Ur.pe_b2 (Ur.call_isX (K := K) (by rfl) (a := ea) hz hf (by exact List.mem_cons_self)) (by rfl) T.m_isinstance (by decide +kernel) (pv 5) (pe_tup (pa_cons (pe_glob (v := .ref A.c_NoCommand) (by rfl) T.g_NoCommand rfl) (pa_cons (pe_glob (v := .ref A.c_NoNeeds) (by rfl) T.g_NoNeeds rfl) (pa_cons (pe_glob (v := .ref A.c_NoRow) (by rfl) T.g_NoRow rfl) (pa_cons (pe_glob (v := .ref A.c_NoTable) (by rfl) T.g_NoTable rfl) pa_nil)))))) (pe_one (pe_not (Ur.pe_b2 (Ur.call_isX (K := K) (by rfl) (a := ea) hz hf (by exact List.mem_cons_self)) (by rfl) T.m_isinstance (by decide +kernel) (pv 5) (pe_bltn (v := .ty "ValueError") (by rfl) T.m_ValueError (by decide +kernel) rfl))))))
    (pss_one (ps_set (i := 4) sc__law_caught.nd rfl (Or.inl rfl) (pe_ifExp (PW.pt (pw_and (pt_cmpR (Ur.op_neDK (K := K) rfl hr.units) (pv 6) (pe_lst (pa_cons pe_bl (pa_cons pe_bl pa_nil))) (nomark _)) (pw_and1 (pt_not (pt_val (pv 7)))))) (pe_ix (Ur.ix_listK (K := K) rfl) (pe_lst (pa_cons pe_int (pa_cons pe_int (pa_cons pe_int pa_nil)))) (pe_op op_add (Ur.pe_t1 call_int1 (by rfl) T.m_int (by decide +kernel) (pe_ix (Ur.ix_listK (K := K) rfl) (pv 6) pe_int (fun _ _ => rfl))) (pe_op op_mul pe_int (Ur.pe_t1 call_int1 (by rfl) T.m_int (by decide +kernel) (pe_ix (Ur.ix_listK (K := K) rfl) (pv 6) pe_int (fun _ _ => rfl))))) (fun _ _ => rfl)) pe_int)))))))
    (pss_one (ps_ret (pv 4))))), ?_⟩
    rcases hb with ⟨rfl | rfl, hp, ⟨x, rfl⟩, q⟩ | ⟨rfl, hp, ⟨x, rfl⟩, q⟩ | ⟨rfl | rfl, hw, q⟩
    · tb_start
      refine .inr ⟨L, A.c_Ready, pc, ns, cs, lv, hk, hp, ?_⟩
      refine ⟨true, T.m_NoPlace_RowError, fun _ ea nea => ?_, fun z => nomatch z⟩
      tb_start
      intro p1 n1
      tb_start
      intro p2 n2
      have d12 : p1 ≠ p2 := by kcj_m
      tb_start
      intro p3 n3
      have d13 : p1 ≠ p3 := by kcj_m
      refine rNe_tf (by kct_strs) upd_same ?_
      tb_start
      intro p4 n4
      have d14 : p1 ≠ p4 := by kcj_m
      tb_start
      exact q _ (lv.same (by kcj_in)) (Fr.same (by kcj_in))
    · tb_start
      refine .inr ⟨L, A.c_Ready, pc, ns, cs, lv, hk, hp, ?_⟩
      refine ⟨true, T.m_NoPlace_RowError, fun _ ea nea => ?_, fun z => nomatch z⟩
      tb_start
      intro p1 n1
      tb_start
      intro p2 n2
      have d12 : p1 ≠ p2 := by kcj_m
      tb_start
      intro p3 n3
      have d13 : p1 ≠ p3 := by kcj_m
      refine rNe_tf (by kct_strs) upd_same ?_
      tb_start
      intro p4 n4
      have d14 : p1 ≠ p4 := by kcj_m
      tb_start
      exact q _ (lv.same (by kcj_in)) (Fr.same (by kcj_in))
    · tb_start
      refine .inr ⟨L, A.c_Ready, pc, ns, cs, lv, hk, hp, ?_⟩
      refine ⟨true, T.m_NoPlace_RowError, fun _ ea nea => ?_, fun z => nomatch z⟩
      tb_start
      intro p1 n1
      tb_start
      intro p2 n2
      have d12 : p1 ≠ p2 := by kcj_m
      tb_start
      intro p3 n3
      have d13 : p1 ≠ p3 := by kcj_m
      refine rNe_tf (by kct_strs) upd_same ?_
      tb_start
      intro p4 n4
      have d14 : p1 ≠ p4 := by kcj_m
      tb_start
      exact q _ (lv.same (by kcj_in)) (Fr.same (by kcj_in))
    · tb_start
      refine .inr ⟨L, pc, ns, cs, lv, hkk, hw, fun H1 lv1 f1 => ?_⟩
      refine ⟨true, T.m_NoWindow_RowError, fun _ ea nea => ?_, fun z => nomatch z⟩
      tb_start
      intro p1 n1
      tb_start
      intro p2 n2
      have d12 : p1 ≠ p2 := by kcj_m
      tb_start
      intro p3 n3
      have d13 : p1 ≠ p3 := by kcj_m
      refine rNe_ft (by kct_strs) upd_same ?_
      tb_start
      intro p4 n4
      have d14 : p1 ≠ p4 := by kcj_m
      tb_start
      exact q _ (lv1.same (by kcj_in)) (f1.trans (Fr.same (by kcj_in)))
    · tb_start
      refine .inr ⟨L, pc, ns, cs, lv, hkk, hw, fun H1 lv1 f1 => ?_⟩
      refine ⟨true, T.m_NoWindow_RowError, fun _ ea nea => ?_, fun z => nomatch z⟩
      tb_start
      intro p1 n1
      tb_start
      intro p2 n2
      have d12 : p1 ≠ p2 := by kcj_m
      tb_start
      intro p3 n3
      have d13 : p1 ≠ p3 := by kcj_m
      refine rNe_ft (by kct_strs) upd_same ?_
      tb_start
      intro p4 n4
      have d14 : p1 ≠ p4 := by kcj_m
      tb_start
      exact q _ (lv1.same (by kcj_in)) (f1.trans (Fr.same (by kcj_in)))
end
end Ur
namespace Ur
open PySem L2
/-- whether a thing is a whole number -/
def sp__law_whole (K : PySem.W.Frag) : Sp := fun vs H Q _ => ∃ (v : V) (b : Bool), vs = [v] ∧ IsW H v b ∧ Q (.bl b) H
section
variable {P : Program} {w : World} {K : PySem.W.Frag} {mg : Str → Option Value} {base : Heap} {A : Adr}
theorem ok__law_whole (T : Txt K mg A) : FnOk P w K mg base CX0 1 A.f__law_whole A.d__law_whole ["thing"] (sp__law_whole K) := by
  refine T.F__law_whole.ok sc__law_whole (fun vs H Q E h => ?_) (fun cdv Ar outer s H vs Q E hr h => ?_)
  · obtain ⟨v, b, rfl, _⟩ := h
    rfl
  · obtain ⟨v, b, rfl, hw, q⟩ := h
    refine ⟨_, (pss_one (ps_ret (pe_and (Ur.pe_b2 (Ur.call_isiK (K := K) rfl) (by rfl) T.m_isinstance (by decide +kernel) (pv 0) (pe_bltn (v := .ty "int") (by rfl) T.m_int (by decide +kernel) rfl)) (pe_one (pe_not (Ur.pe_b2 (Ur.call_isiK (K := K) rfl) (by rfl) T.m_isinstance (by decide +kernel) (pv 0) (pe_bltn (v := .ty "bool") (by rfl) T.m_bool (by decide +kernel) rfl))))))), ?_⟩
    rcases hw with ⟨rfl, i, rfl⟩ | ⟨rfl, hk, hn⟩
    · tb_start
      exact q
    · rcases hk with ⟨i, rfl⟩ | ⟨c, rfl⟩ | ⟨x, rfl⟩ | rfl | ⟨p, xs, rfl, hp⟩ | ⟨p, xs, rfl, hp⟩ | ⟨p, xs, rfl, hp⟩
      · exact (hn i rfl).elim
      all_goals
        tb_start
        exact q
end
end Ur
namespace Ur
open PySem L2
/-- something done, here and there: True -/
def sp__law_deed (K : PySem.W.Frag) (C : Addr) : Sp := fun vs H Q _ => ∃ (CR : Addr) (L : Addr → Prop) (a o st pl pc : Addr) (ns : List Int) (cs : List (Int × Int × List Int)), vs = [.ref a, .ref o, .ref st] ∧ Dst C CR L a o st pl pc H ns cs ∧ cs.length + 1 ≤ 10000 ∧ ∀ ns' cs' H', Dst C CR L a o st pl pc H' ns' cs' → cs'.length ≤ cs.length + 1 → undoAll ns' cs' = undoAll ns cs → Dfr a st pl o pc H H' → Q (.bl true) H'
section
variable {P : Program} {w : World} {K : PySem.W.Frag} {mg : Str → Option Value} {base : Heap} {A : Adr}
theorem ok__law_deed (T : Txt K mg A) : FnOk P w K mg base CX0 4 A.f__law_deed A.d__law_deed ["draws", "live", "state"] (sp__law_deed K A.c_Live) := by
  have G_Live_change := ok_Live_change (P := P) (w := w) (base := base) T
  have G_Live_put := ok_Live_put (P := P) (w := w) (base := base) T
  have G_Live_take := ok_Live_take (P := P) (w := w) (base := base) T
  have G_Live_undo := ok_Live_undo (P := P) (w := w) (base := base) T
  have G__law_any := ok__law_any (P := P) (w := w) (base := base) T
  have G__law_take := ok__law_take (P := P) (w := w) (base := base) T
  have G__law_whole := ok__law_whole (P := P) (w := w) (base := base) T
  refine T.F__law_deed.ok sc__law_deed (fun vs H Q E h => ?_) (fun cdv Ar outer s H vs Q E hr h => ?_)
  · obtain ⟨CR, L, a, o, st, pl, pc, ns, cs, rfl, _⟩ := h
    rfl
  · have C_Live := T.C_Live
    have n_Live_numbers := T.n_Live_numbers
    have n_Live_changes := T.n_Live_changes
    have n_Live_made := T.n_Live_made
    obtain ⟨CR, L, a, o, st, pl, pc, ns, cs, rfl, d, hcl, q⟩ := h
    obtain ⟨ds, ed⟩ := d.draws
    obtain ⟨r, ks, hs, est, er, fr0, epl, rws, bk⟩ := d.row
    have la := d.la
    have ls := d.ls
    have lp := d.lp
    have fr : ∀ b, Dbr a st pl o pc b → r ≠ b := fun b h => fr0 b (own_of la ls lp h)
    have nas := d.nas
    have nap := d.nap
    have nsp := d.nsp
    have hl := d.len
    refine ⟨_, (pss_cons (ps_asg (pv 2) (pg_lst (by rfl) (pgs_cons (pg_name (i := 3) sc__law_deed.nd rfl (Or.inl rfl)) (pgs_cons (pg_name (i := 4) sc__law_deed.nd rfl (Or.inl rfl)) pgs_nil))))
    (pss_cons (ps_set (i := 5) sc__law_deed.nd rfl (Or.inl rfl) (pe_call G__law_take (hr.mono (by decide)) (by rfl) T.g__law_take T.F__law_take.kp T.b__law_take .nil pass0 (pa_cons (pv 0) (pa_cons pe_int pa_nil))))
    (pss_cons (ps_if (pt_cmpR op_gt (pv 5) pe_int (nomark _)) (pss_cons (ps_set (i := 6) sc__law_deed.nd rfl (Or.inl rfl) (pe_cmpR (Ur.op_neDK (K := K) rfl hr.units) (pv 4) (pe_lst pa_nil) (nomark _)))
    (pss_cons (ps_if (pt_val (pv 6)) (pss_one (ps_asg (pe_bm0 PySem.F.plainAttrs_list PySem.F.slot_list_pop PySem.F.type_list_pop mt_pop (pv 4)) (pg_sub (pv 2) pe_int set_list))) pss_nil)
    (pss_one (ps_ret (pe_cmpR op_eq (pe_meth0 (pv 1) T.C_Live T.M_Live_undo G_Live_undo (hr.mono (by decide)) T.b_Live_undo .nil pass0) (pv 6) (nomark _)))))) pss_nil)
    (pss_cons (ps_set (i := 7) sc__law_deed.nd rfl (Or.inl rfl) (Ur.pe_t1 (Ur.call_list_ofK (K := K) rfl) (by rfl) T.m_list (by decide +kernel) (pv 3)))
    (Evl.pss_cut (ps_if (PW.pt (pw_and (pt_cmpR (Ur.op_neDK (K := K) rfl hr.units) (pv 3) (pe_lst pa_nil) (nomark _)) (pw_and1 (pt_cmpR op_lt (pv 5) pe_int (nomark _))))) (pss_cons (ps_set (i := 8) sc__law_deed.nd rfl (Or.inl rfl) (pe_op op_mod (pe_call G__law_take (hr.mono (by decide)) (by rfl) T.g__law_take T.F__law_take.kp T.b__law_take .nil pass0 (pa_cons (pv 0) (pa_cons pe_int pa_nil))) (Ur.pe_b1 (Ur.call_lenIK (K := K) rfl) (by rfl) T.m_len (by decide +kernel) (pv 3))))
    (pss_cons (ps_set (i := 9) sc__law_deed.nd rfl (Or.inl rfl) (pe_call G__law_any (hr.mono (by decide)) (by rfl) T.g__law_any T.F__law_any.kp T.b__law_any .nil pass0 (pa_cons (pv 0) pa_nil)))
    (pss_cons (ps_asg (pe_op op_cat (pe_op op_cat (pe_slice (Ur.sl_listK (K := K) rfl) (pv 3) po_none (po_some (pv 8))) (pe_lst (pa_cons (pv 9) pa_nil))) (pe_slice (Ur.sl_listK (K := K) rfl) (pv 3) (po_some (pe_op op_add (pv 8) pe_int)) po_none)) (pg_sub (pv 2) pe_int set_list))
    (pss_cons (ps_expr (pe_bm PySem.F.plainAttrs_list PySem.F.slot_list_append PySem.F.type_list_append mt_append (pv 4) (pa_cons (pv 7) pa_nil)))
    (pss_one (ps_ret (pe_cmpR op_isN (pe_meth (pv 1) T.C_Live T.M_Live_change G_Live_change (hr.mono (by decide)) T.b_Live_change .nil passL (pa_cons (pv 8) (pa_cons (pv 9) pa_nil))) pe_non (nomark _)))))))) pss_nil)
    (Evl.pss_cut (ps_if (PW.pt (pw_and (pt_cmpR (Ur.op_neDK (K := K) rfl hr.units) (pv 3) (pe_lst pa_nil) (nomark _)) (pw_and1 (PW.pt (pw_or (pt_cmpR op_eq (pv 5) pe_int (nomark _)) (pw_or1 (pt_cmpR op_gt (Ur.pe_b1 (Ur.call_lenIK (K := K) rfl) (by rfl) T.m_len (by decide +kernel) (pv 3)) pe_int (nomark _)))))))) (pss_cons (ps_set (i := 8) sc__law_deed.nd rfl (Or.inl rfl) (pe_op op_mod (pe_call G__law_take (hr.mono (by decide)) (by rfl) T.g__law_take T.F__law_take.kp T.b__law_take .nil pass0 (pa_cons (pv 0) (pa_cons pe_int pa_nil))) (Ur.pe_b1 (Ur.call_lenIK (K := K) rfl) (by rfl) T.m_len (by decide +kernel) (pv 3))))
    (pss_cons (ps_asg (pe_op op_cat (pe_slice (Ur.sl_listK (K := K) rfl) (pv 3) po_none (po_some (pv 8))) (pe_slice (Ur.sl_listK (K := K) rfl) (pv 3) (po_some (pe_op op_add (pv 8) pe_int)) po_none)) (pg_sub (pv 2) pe_int set_list))
    (pss_cons (ps_expr (pe_bm PySem.F.plainAttrs_list PySem.F.slot_list_append PySem.F.type_list_append mt_append (pv 4) (pa_cons (pv 7) pa_nil)))
    (pss_cons (ps_set (i := 10) sc__law_deed.nd rfl (Or.inl rfl) (pe_meth (pv 1) T.C_Live T.M_Live_take G_Live_take (hr.mono (by decide)) T.b_Live_take .nil passL (pa_cons (pv 8) pa_nil)))
    (pss_one (ps_ret (pe_and (pe_call G__law_whole (hr.mono (by decide)) (by rfl) T.g__law_whole T.F__law_whole.kp T.b__law_whole .nil pass0 (pa_cons (pv 10) pa_nil)) (pe_one (pe_cmpR op_eq (pv 10) (pe_ix (Ur.ix_listK (K := K) rfl) (pv 3) (pv 8) (fun _ _ => rfl)) (nomark _)))))))))) pss_nil)
    (pss_cons (ps_set (i := 8) sc__law_deed.nd rfl (Or.inl rfl) (pe_op op_mod (pe_call G__law_take (hr.mono (by decide)) (by rfl) T.g__law_take T.F__law_take.kp T.b__law_take .nil pass0 (pa_cons (pv 0) (pa_cons pe_int pa_nil))) (pe_op op_add (Ur.pe_b1 (Ur.call_lenIK (K := K) rfl) (by rfl) T.m_len (by decide +kernel) (pv 3)) pe_int)))
    (pss_cons (ps_set (i := 9) sc__law_deed.nd rfl (Or.inl rfl) (pe_call G__law_any (hr.mono (by decide)) (by rfl) T.g__law_any T.F__law_any.kp T.b__law_any .nil pass0 (pa_cons (pv 0) pa_nil)))
    (pss_cons (ps_asg (pe_op op_cat (pe_op op_cat (pe_slice (Ur.sl_listK (K := K) rfl) (pv 3) po_none (po_some (pv 8))) (pe_lst (pa_cons (pv 9) pa_nil))) (pe_slice (Ur.sl_listK (K := K) rfl) (pv 3) (po_some (pv 8)) po_none)) (pg_sub (pv 2) pe_int set_list))
    (pss_cons (ps_expr (pe_bm PySem.F.plainAttrs_list PySem.F.slot_list_append PySem.F.type_list_append mt_append (pv 4) (pa_cons (pv 7) pa_nil)))
    (pss_one (ps_ret (pe_cmpR op_isN (pe_meth (pv 1) T.C_Live T.M_Live_put G_Live_put (hr.mono (by decide)) T.b_Live_put .nil passL (pa_cons (pv 8) (pa_cons (pv 9) pa_nil))) pe_non (nomark _)))))))))))))), ?_⟩
    tb_start
    intro way m1 H1 h10 h11 ea1 b1
    have d1 := d.a b1 ea1
    have f1 : Dfr a st pl o pc H H1 := Dfr.a b1
    have est1 := b1 _ _ (Ne.symm nas) est
    have er1 := b1 _ _ (fr _ (.inl rfl)) er
    have epl1 := b1 _ _ (Ne.symm nap) epl
    have rws1 := rws.fr (fun b w n e => f1 b w (fun z => n (own_of la ls lp z)) e)
    clear rws est er epl b1 ed d
    tb_start
    refine br (fun hw => ?_) (fun hw => ?_)
    · tb_start
      intro b nb
      have s2 : Same H1 (upd H1 b (.lst [])) := same_new nb
      have eb : (upd H1 b (.lst [])) b = some (.lst []) := upd_same
      have d2 := d1.same s2
      have est2 := s2 _ _ est1
      have epl2 := s2 _ _ epl1
      have rws2 := rws1.fr (fun b w _ e => s2 b w e)
      have f2 : Dfr a st pl o pc H (upd H1 b (.lst [])) := f1.trans (Dfr.same s2)
      generalize (upd H1 b (.lst [])) = H2 at *
      refine rNe_rwsN rws2 (.of epl2) (.of eb) ?_
      by_cases hn : hs = []
      · rw [decide_eq_true hn]
        have hc0 : cs = [] := by
          have := bk.len
          rw [hn] at this
          exact List.eq_nil_of_length_eq_zero this
        obtain ⟨dx3, pn3, mv3, eo3⟩ := d2.liv.ob
        have v2 := d2.liv
        tb_start
        refine ⟨fun _ H' v' f' => ?_, fun ds c e => ?_⟩
        · tb_start
          exact q ns cs _ (d2.fr v' f') (by omega) rfl (f2.trans (Dfr.fr f'))
        · rw [hc0] at e
          exact absurd e.symm (by simp)
      · rw [decide_eq_false hn]
        obtain ⟨us, k, rfl⟩ : ∃ us k, ks = us ++ [k] := by
          have hne : ks ≠ [] := fun e => hn (by have := rws2.len; rw [e] at this; exact List.eq_nil_of_length_eq_zero this.symm)
          exact ⟨ks.dropLast, ks.getLast hne, (List.dropLast_concat_getLast hne).symm⟩
        have hlast : ((us ++ [k]).map V.ref)[((us ++ [k]).map V.ref).length - 1]? = some (.ref k) := by
          rw [List.length_map, List.length_append, List.getElem?_map, List.getElem?_append_right (by show us.length ≤ us.length + 1 - 1; omega)]
          show Option.map V.ref ([k][us.length + 1 - 1 - us.length]?) = _
          rw [show us.length + 1 - 1 - us.length = 0 by omega]
          rfl
        have hdl : ((us ++ [k]).map V.ref).dropLast = us.map V.ref := by rw [List.map_append]; exact List.dropLast_concat
        obtain ⟨v3, ds3, c3, hc3, hb3, k3⟩ := d2.undone est2 epl2
        rw [← hdl] at v3 k3
        have hset : ([V.ref k, V.ref pl] : List V) = [V.ref r, V.ref pl].set (Int.toNat 0) (V.ref k) := rfl
        rw [hset] at v3 k3
        obtain ⟨dx3, pn3, mv3, eo3⟩ := v3.ob
        tb_start
        exact ⟨fun e => absurd e (by rw [hc3]; simp), fun ds c e => by
          obtain ⟨rfl, rfl⟩ : ds = ds3 ∧ c = c3 := by
            rw [hc3] at e
            obtain ⟨e1, e2⟩ := List.append_inj' e rfl
            exact ⟨e1.symm, (List.cons.inj e2).1.symm⟩
          refine ⟨hb3, fun H' v' f' => ?_⟩
          obtain ⟨d', g'⟩ := k3 _ v' f'
          tb_start
          exact q _ _ _ d' (by rw [hc3, List.length_append]; omega) (by rw [hc3, undoAll_snoc]) (f2.trans g')⟩
    tb_start
    intro kp nkp
    have s2 : Same H1 (upd H1 kp (.lst (ns.map V.int))) := same_new nkp
    have ek2 : (upd H1 kp (.lst (ns.map V.int))) kp = some (.lst (ns.map V.int)) := upd_same
    have er2 := s2 _ _ er1
    have fk0 := d1.fresh nkp
    have fk : ∀ b, Dbr a st pl o pc b → kp ≠ b := fun b h => fk0 b (own_of la ls lp h)
    have d2 := d1.same s2
    have f2 := f1.trans (Dfr.same s2)
    clear s2 nkp er1 d1 f1 est1 epl1 rws1 ea1
    generalize (upd H1 kp (.lst (ns.map V.int))) = H2 at *
    tb_start
    refine ⟨fun σ H' => Iv (∃ (u6 u8 u9 u10 : Option V), σ = [some (.ref a), some (.ref o), some (.ref st), some (.ref r), some (.ref pl), some (.int way), u6, some (.ref kp), u8, u9, u10] ∧ Dst A.c_Live CR L a o st pl pc H' ns cs ∧ H' r = some (.lst (ns.map V.int)) ∧ H' kp = some (.lst (ns.map V.int)) ∧ Dfr a st pl o pc H H'), ?_, ?_⟩
    · tb_start
      intro e1 ne1
      have s3 : Same H2 (upd H2 e1 (.lst [])) := same_new ne1
      have ee3 : (upd H2 e1 (.lst [])) e1 = some (.lst []) := upd_same
      have er3 := s3 _ _ er2
      have ek3 := s3 _ _ ek2
      have d3 := d2.same s3
      have f3 := f2.trans (Dfr.same s3)
      clear s3 ne1 er2 ek2 d2 f2
      generalize (upd H2 e1 (.lst [])) = H3 at *
      tb_start
      refine brn (fun hne => ?_) (fun he => ?_)
      · tb_start
        refine br (fun hw2 => ?_) (fun hw2 => ?_)
        · have hpos : 0 < ns.length := List.length_pos_iff.mpr hne
          obtain ⟨ds3, ed3⟩ := d3.draws
          tb_start
          intro x4 m4 H4 h40 h41 ea4 b4
          have er := b4 _ _ (fr _ (.inl rfl)) er3
          have ek := b4 _ _ (fk _ (.inl rfl)) ek3
          have d5 := d3.a b4 ea4
          have f5 := f3.trans (Dfr.a b4)
          clear b4 er3 ek3 d3 f3 ed3
          have p0 := Int.emod_nonneg x4 (show (ns.length : Int) ≠ 0 by omega)
          have p1 := Int.emod_lt_of_pos x4 (show 0 < (ns.length : Int) by omega)
          tb_start
          intro x5 m5 H5 ea5 b5
          replace er := b5 _ _ (fr _ (.inl rfl)) er
          replace ek := b5 _ _ (fk _ (.inl rfl)) ek
          replace d5 := d5.a b5 ea5
          replace f5 := f5.trans (Dfr.a b5)
          clear b5 ea4
          tb_start
          intro q1 nq1
          have f_q1 := d5.fresh nq1
          have tG1 : Same H5 (upd H5 q1 (.lst (cutV (ns.map V.int) none (some (x4 % (ns.length : Int)))))) := same_new nq1
          have eG1 : (upd H5 q1 (.lst (cutV (ns.map V.int) none (some (x4 % (ns.length : Int)))))) q1 = some (.lst ((ns.take (x4 % (ns.length : Int)).toNat).map V.int)) := by rw [upd_same, cutI_to ns p0]
          replace er := tG1 _ _ er
          replace ek := tG1 _ _ ek
          replace d5 := d5.same tG1
          replace f5 := f5.trans (Dfr.same tG1)
          clear tG1 nq1
          generalize (upd H5 q1 (.lst (cutV (ns.map V.int) none (some (x4 % (ns.length : Int)))))) = G1 at *
          have hl1 : (ns.take (x4 % (ns.length : Int)).toNat).length ≤ 1000 := by rw [List.length_take]; omega
          tb_start
          intro q2 nq2
          have f_q2 := d5.fresh nq2
          have tG2 : Same G1 (upd G1 q2 (.lst [.int x5])) := same_new nq2
          have eG2 : (upd G1 q2 (.lst [.int x5])) q2 = some (.lst (([x5] : List Int).map V.int)) := upd_same
          replace er := tG2 _ _ er
          replace ek := tG2 _ _ ek
          replace eG1 := tG2 _ _ eG1
          replace d5 := d5.same tG2
          replace f5 := f5.trans (Dfr.same tG2)
          clear tG2 nq2
          generalize (upd G1 q2 (.lst [.int x5])) = G2 at *
          have hl2 : ([x5] : List Int).length ≤ 10 := by show 1 ≤ 10; decide
          tb_start
          rw [← List.map_append]
          intro q3 nq3
          have f_q3 := d5.fresh nq3
          have tG3 : Same G2 (upd G2 q3 (.lst ((ns.take (x4 % (ns.length : Int)).toNat ++ [x5]).map V.int))) := same_new nq3
          have eG3 : (upd G2 q3 (.lst ((ns.take (x4 % (ns.length : Int)).toNat ++ [x5]).map V.int))) q3 = some (.lst ((ns.take (x4 % (ns.length : Int)).toNat ++ [x5]).map V.int)) := upd_same
          replace er := tG3 _ _ er
          replace ek := tG3 _ _ ek
          replace d5 := d5.same tG3
          replace f5 := f5.trans (Dfr.same tG3)
          clear tG3 nq3
          generalize (upd G2 q3 (.lst ((ns.take (x4 % (ns.length : Int)).toNat ++ [x5]).map V.int))) = G3 at *
          have hl3 : (ns.take (x4 % (ns.length : Int)).toNat ++ [x5]).length ≤ 1100 := by rw [List.length_append]; omega
          clear eG1 eG2
          tb_start
          intro q4 nq4
          have f_q4 := d5.fresh nq4
          have tG4 : Same G3 (upd G3 q4 (.lst (cutV (ns.map V.int) (some (x4 % (ns.length : Int) + 1)) none))) := same_new nq4
          have eG4 : (upd G3 q4 (.lst (cutV (ns.map V.int) (some (x4 % (ns.length : Int) + 1)) none))) q4 = some (.lst ((ns.drop (x4 % (ns.length : Int) + 1).toNat).map V.int)) := by rw [upd_same, cutI_from ns (by omega)]
          replace er := tG4 _ _ er
          replace ek := tG4 _ _ ek
          replace eG3 := tG4 _ _ eG3
          replace d5 := d5.same tG4
          replace f5 := f5.trans (Dfr.same tG4)
          clear tG4 nq4
          generalize (upd G3 q4 (.lst (cutV (ns.map V.int) (some (x4 % (ns.length : Int) + 1)) none))) = G4 at *
          have hl4 : (ns.drop (x4 % (ns.length : Int) + 1).toNat).length ≤ 1000 := by rw [List.length_drop]; omega
          tb_start
          rw [← List.map_append]
          intro q5 nq5
          have f_q5 := d5.fresh nq5
          have tG5 : Same G4 (upd G4 q5 (.lst ((ns.take (x4 % (ns.length : Int)).toNat ++ [x5] ++ ns.drop (x4 % (ns.length : Int) + 1).toNat).map V.int))) := same_new nq5
          have eG5 : (upd G4 q5 (.lst ((ns.take (x4 % (ns.length : Int)).toNat ++ [x5] ++ ns.drop (x4 % (ns.length : Int) + 1).toNat).map V.int))) q5 = some (.lst ((layd ns (x4 % (ns.length : Int)) 1 [x5]).map V.int)) := upd_same
          replace ek := tG5 _ _ ek
          replace d5 := d5.same tG5
          replace f5 := f5.trans (Dfr.same tG5)
          clear tG5 nq5
          generalize (upd G4 q5 (.lst ((ns.take (x4 % (ns.length : Int)).toNat ++ [x5] ++ ns.drop (x4 % (ns.length : Int) + 1).toNat).map V.int))) = G5 at *
          obtain ⟨r0, ks0, hs0, est0, _, _, epl0, rw0, bk0⟩ := d5.row
          have hk1 := rw0.len
          have hk2 := bk0.len
          have hkl : (ks0.map V.ref).length < sizeLine := szl (by rw [List.length_map]; omega)
          obtain ⟨v6, hs6, bk6, k6⟩ := d5.done est0 epl0 eG5 ek f_q5 fk0
          have hset : ([V.ref q5, V.ref pl] : List V) = [V.ref r0, V.ref pl].set (Int.toNat 0) (V.ref q5) := rfl
          rw [hset] at v6 k6
          clear hset rw0 bk0
          obtain ⟨dx6, pn6, mv6, eo6⟩ := v6.ob
          have hll := layd_len (ns := ns) (gs := [x5]) (p := x4 % (ns.length : Int)) (m := 1) p0 (by omega) (by omega)
          have hgl : (([x5] : List Int).length : Int) = 1 := rfl
          rw [hgl] at hll
          tb_start
          refine .inl ?_
          tb_start
          intro H7 v7 f7
          obtain ⟨d7, f8⟩ := k6 _ _ v7 f7 (bk6.note (gs := [x5]) p0 (by omega) (by omega) hl) (by omega)
          tb_start
          exact q _ _ _ d7 (by rw [List.length_append]; exact Nat.le_refl _) (undoAll_note (gs := [x5]) p0 (by omega) (by omega)) (f5.trans f8)
        · exact ⟨_, _, _, _, rfl, d3, er3, ek3, f3⟩
      · exact ⟨_, _, _, _, rfl, d3, er3, ek3, f3⟩
    rintro σ H2' ⟨u6, u8, u9, u10, rfl, d2', er2', ek2', f2'⟩
    clear d2 er2 ek2 f2
    refine ⟨fun σ H' => Iv (∃ (u6 u8 u9 u10 : Option V), σ = [some (.ref a), some (.ref o), some (.ref st), some (.ref r), some (.ref pl), some (.int way), u6, some (.ref kp), u8, u9, u10] ∧ Dst A.c_Live CR L a o st pl pc H' ns cs ∧ H' r = some (.lst (ns.map V.int)) ∧ H' kp = some (.lst (ns.map V.int)) ∧ Dfr a st pl o pc H H' ∧ ns.length ≤ 300), ?_, ?_⟩
    · tb_start
      intro e1 ne1
      have s3 : Same H2' (upd H2' e1 (.lst [])) := same_new ne1
      have ee3 : (upd H2' e1 (.lst [])) e1 = some (.lst []) := upd_same
      have er3 := s3 _ _ er2'
      have ek3 := s3 _ _ ek2'
      have d3 := d2'.same s3
      have f3 := f2'.trans (Dfr.same s3)
      clear s3 ne1 er2' ek2' d2' f2'
      generalize (upd H2' e1 (.lst [])) = H3 at *
      tb_start
      refine brn (fun hne => ?_) (fun he => ?_)
      · have hpos : 0 < ns.length := List.length_pos_iff.mpr hne
        have hgo : ∀ {B : Prop}, B → B := id
        tb_start
        refine bri (fun hw4 => ?_) (fun hw4 => ?_)
        · skip
          obtain ⟨ds3, ed3⟩ := d3.draws
          tb_start
          intro x4 m4 H4 h40 h41 ea4 b4
          have er := b4 _ _ (fr _ (.inl rfl)) er3
          have ek := b4 _ _ (fk _ (.inl rfl)) ek3
          have d5 := d3.a b4 ea4
          have f5 := f3.trans (Dfr.a b4)
          clear b4 er3 ek3 d3 f3 ed3
          have p0 := Int.emod_nonneg x4 (show (ns.length : Int) ≠ 0 by omega)
          have p1 := Int.emod_lt_of_pos x4 (show 0 < (ns.length : Int) by omega)
          tb_start
          intro q1 nq1
          have f_q1 := d5.fresh nq1
          have tG1 : Same H4 (upd H4 q1 (.lst (cutV (ns.map V.int) none (some (x4 % (ns.length : Int)))))) := same_new nq1
          have eG1 : (upd H4 q1 (.lst (cutV (ns.map V.int) none (some (x4 % (ns.length : Int)))))) q1 = some (.lst ((ns.take (x4 % (ns.length : Int)).toNat).map V.int)) := by rw [upd_same, cutI_to ns p0]
          replace er := tG1 _ _ er
          replace ek := tG1 _ _ ek
          replace d5 := d5.same tG1
          replace f5 := f5.trans (Dfr.same tG1)
          clear tG1 nq1
          generalize (upd H4 q1 (.lst (cutV (ns.map V.int) none (some (x4 % (ns.length : Int)))))) = G1 at *
          have hl1 : (ns.take (x4 % (ns.length : Int)).toNat).length ≤ 1000 := by rw [List.length_take]; omega
          tb_start
          intro q4 nq4
          have f_q4 := d5.fresh nq4
          have tG4 : Same G1 (upd G1 q4 (.lst (cutV (ns.map V.int) (some (x4 % (ns.length : Int) + 1)) none))) := same_new nq4
          have eG4 : (upd G1 q4 (.lst (cutV (ns.map V.int) (some (x4 % (ns.length : Int) + 1)) none))) q4 = some (.lst ((ns.drop (x4 % (ns.length : Int) + 1).toNat).map V.int)) := by rw [upd_same, cutI_from ns (by omega)]
          replace er := tG4 _ _ er
          replace ek := tG4 _ _ ek
          replace eG1 := tG4 _ _ eG1
          replace d5 := d5.same tG4
          replace f5 := f5.trans (Dfr.same tG4)
          clear tG4 nq4
          generalize (upd G1 q4 (.lst (cutV (ns.map V.int) (some (x4 % (ns.length : Int) + 1)) none))) = G4 at *
          have hl4 : (ns.drop (x4 % (ns.length : Int) + 1).toNat).length ≤ 1000 := by rw [List.length_drop]; omega
          tb_start
          rw [← List.map_append]
          intro q5 nq5
          have f_q5 := d5.fresh nq5
          have tG5 : Same G4 (upd G4 q5 (.lst ((ns.take (x4 % (ns.length : Int)).toNat ++ ns.drop (x4 % (ns.length : Int) + 1).toNat).map V.int))) := same_new nq5
          have eG5 : (upd G4 q5 (.lst ((ns.take (x4 % (ns.length : Int)).toNat ++ ns.drop (x4 % (ns.length : Int) + 1).toNat).map V.int))) q5 = some (.lst ((layd ns (x4 % (ns.length : Int)) 1 []).map V.int)) := by rw [upd_same]; unfold layd; rw [List.append_nil]
          replace ek := tG5 _ _ ek
          replace er := tG5 _ _ er
          replace d5 := d5.same tG5
          replace f5 := f5.trans (Dfr.same tG5)
          clear tG5 nq5
          generalize (upd G4 q5 (.lst ((ns.take (x4 % (ns.length : Int)).toNat ++ ns.drop (x4 % (ns.length : Int) + 1).toNat).map V.int))) = G5 at *
          obtain ⟨r0, ks0, hs0, est0, _, _, epl0, rw0, bk0⟩ := d5.row
          have hk1 := rw0.len
          have hk2 := bk0.len
          have hkl : (ks0.map V.ref).length < sizeLine := szl (by rw [List.length_map]; omega)
          obtain ⟨v6, hs6, bk6, k6⟩ := d5.done est0 epl0 eG5 ek f_q5 fk0
          have hset : ([V.ref q5, V.ref pl] : List V) = [V.ref r0, V.ref pl].set (Int.toNat 0) (V.ref q5) := rfl
          rw [hset] at v6 k6
          clear hset rw0 bk0
          obtain ⟨dx6, pn6, mv6, eo6⟩ := v6.ob
          have hll := layd_len (ns := ns) (gs := []) (p := x4 % (ns.length : Int)) (m := 1) p0 (by omega) (by omega)
          have hgl : (([] : List Int).length : Int) = 0 := rfl
          rw [hgl] at hll
          have er6 : (upd (upd G5 st (.lst ([V.ref r0, V.ref pl].set (Int.toNat 0) (V.ref q5)))) pl (.lst (ks0.map V.ref ++ [.ref kp]))) r = some (.lst (ns.map V.int)) := by rw [upd_ne (fr _ (.inr (.inr (.inl rfl)))), upd_ne (fr _ (.inr (.inl rfl)))]; exact er
          tb_start
          refine .inl ?_
          tb_start
          intro H7 v7 f7
          obtain ⟨d7, f8⟩ := k6 _ _ v7 f7 (bk6.note (gs := []) p0 (by omega) (by omega) hl) (by omega)
          have er7 := f7 _ _ (fr _ (.inr (.inr (.inr (.inl rfl))))) (fr _ (.inr (.inr (.inr (.inr rfl))))) er6
          tb_start
          exact qbv (q _ _ _ d7 (by rw [List.length_append]; exact Nat.le_refl _) (undoAll_note (gs := []) p0 (by omega) (by omega)) (f5.trans f8)) (decide_eq_true rfl)
        · tb_start
          refine br (fun hl3 => ?_) (fun hl3 => ?_)
          · skip
            obtain ⟨ds3, ed3⟩ := d3.draws
            tb_start
            intro x4 m4 H4 h40 h41 ea4 b4
            have er := b4 _ _ (fr _ (.inl rfl)) er3
            have ek := b4 _ _ (fk _ (.inl rfl)) ek3
            have d5 := d3.a b4 ea4
            have f5 := f3.trans (Dfr.a b4)
            clear b4 er3 ek3 d3 f3 ed3
            have p0 := Int.emod_nonneg x4 (show (ns.length : Int) ≠ 0 by omega)
            have p1 := Int.emod_lt_of_pos x4 (show 0 < (ns.length : Int) by omega)
            tb_start
            intro q1 nq1
            have f_q1 := d5.fresh nq1
            have tG1 : Same H4 (upd H4 q1 (.lst (cutV (ns.map V.int) none (some (x4 % (ns.length : Int)))))) := same_new nq1
            have eG1 : (upd H4 q1 (.lst (cutV (ns.map V.int) none (some (x4 % (ns.length : Int)))))) q1 = some (.lst ((ns.take (x4 % (ns.length : Int)).toNat).map V.int)) := by rw [upd_same, cutI_to ns p0]
            replace er := tG1 _ _ er
            replace ek := tG1 _ _ ek
            replace d5 := d5.same tG1
            replace f5 := f5.trans (Dfr.same tG1)
            clear tG1 nq1
            generalize (upd H4 q1 (.lst (cutV (ns.map V.int) none (some (x4 % (ns.length : Int)))))) = G1 at *
            have hl1 : (ns.take (x4 % (ns.length : Int)).toNat).length ≤ 1000 := by rw [List.length_take]; omega
            tb_start
            intro q4 nq4
            have f_q4 := d5.fresh nq4
            have tG4 : Same G1 (upd G1 q4 (.lst (cutV (ns.map V.int) (some (x4 % (ns.length : Int) + 1)) none))) := same_new nq4
            have eG4 : (upd G1 q4 (.lst (cutV (ns.map V.int) (some (x4 % (ns.length : Int) + 1)) none))) q4 = some (.lst ((ns.drop (x4 % (ns.length : Int) + 1).toNat).map V.int)) := by rw [upd_same, cutI_from ns (by omega)]
            replace er := tG4 _ _ er
            replace ek := tG4 _ _ ek
            replace eG1 := tG4 _ _ eG1
            replace d5 := d5.same tG4
            replace f5 := f5.trans (Dfr.same tG4)
            clear tG4 nq4
            generalize (upd G1 q4 (.lst (cutV (ns.map V.int) (some (x4 % (ns.length : Int) + 1)) none))) = G4 at *
            have hl4 : (ns.drop (x4 % (ns.length : Int) + 1).toNat).length ≤ 1000 := by rw [List.length_drop]; omega
            tb_start
            rw [← List.map_append]
            intro q5 nq5
            have f_q5 := d5.fresh nq5
            have tG5 : Same G4 (upd G4 q5 (.lst ((ns.take (x4 % (ns.length : Int)).toNat ++ ns.drop (x4 % (ns.length : Int) + 1).toNat).map V.int))) := same_new nq5
            have eG5 : (upd G4 q5 (.lst ((ns.take (x4 % (ns.length : Int)).toNat ++ ns.drop (x4 % (ns.length : Int) + 1).toNat).map V.int))) q5 = some (.lst ((layd ns (x4 % (ns.length : Int)) 1 []).map V.int)) := by rw [upd_same]; unfold layd; rw [List.append_nil]
            replace ek := tG5 _ _ ek
            replace er := tG5 _ _ er
            replace d5 := d5.same tG5
            replace f5 := f5.trans (Dfr.same tG5)
            clear tG5 nq5
            generalize (upd G4 q5 (.lst ((ns.take (x4 % (ns.length : Int)).toNat ++ ns.drop (x4 % (ns.length : Int) + 1).toNat).map V.int))) = G5 at *
            obtain ⟨r0, ks0, hs0, est0, _, _, epl0, rw0, bk0⟩ := d5.row
            have hk1 := rw0.len
            have hk2 := bk0.len
            have hkl : (ks0.map V.ref).length < sizeLine := szl (by rw [List.length_map]; omega)
            obtain ⟨v6, hs6, bk6, k6⟩ := d5.done est0 epl0 eG5 ek f_q5 fk0
            have hset : ([V.ref q5, V.ref pl] : List V) = [V.ref r0, V.ref pl].set (Int.toNat 0) (V.ref q5) := rfl
            rw [hset] at v6 k6
            clear hset rw0 bk0
            obtain ⟨dx6, pn6, mv6, eo6⟩ := v6.ob
            have hll := layd_len (ns := ns) (gs := []) (p := x4 % (ns.length : Int)) (m := 1) p0 (by omega) (by omega)
            have hgl : (([] : List Int).length : Int) = 0 := rfl
            rw [hgl] at hll
            have er6 : (upd (upd G5 st (.lst ([V.ref r0, V.ref pl].set (Int.toNat 0) (V.ref q5)))) pl (.lst (ks0.map V.ref ++ [.ref kp]))) r = some (.lst (ns.map V.int)) := by rw [upd_ne (fr _ (.inr (.inr (.inl rfl)))), upd_ne (fr _ (.inr (.inl rfl)))]; exact er
            tb_start
            refine .inl ?_
            tb_start
            intro H7 v7 f7
            obtain ⟨d7, f8⟩ := k6 _ _ v7 f7 (bk6.note (gs := []) p0 (by omega) (by omega) hl) (by omega)
            have er7 := f7 _ _ (fr _ (.inr (.inr (.inr (.inl rfl))))) (fr _ (.inr (.inr (.inr (.inr rfl))))) er6
            tb_start
            exact qbv (q _ _ _ d7 (by rw [List.length_append]; exact Nat.le_refl _) (undoAll_note (gs := []) p0 (by omega) (by omega)) (f5.trans f8)) (decide_eq_true rfl)
          · exact ⟨_, _, _, _, rfl, d3, er3, ek3, f3, by omega⟩
      · exact ⟨_, _, _, _, rfl, d3, er3, ek3, f3, by rw [he]; decide⟩
    rintro σ H3 ⟨u6, u8, u9, u10, rfl, d3, er3, ek3, f3, hl9⟩
    clear d2' er2' ek2' f2'
    obtain ⟨ds3, ed3⟩ := d3.draws
    tb_start
    intro x4 m4 H4 h40 h41 ea4 b4
    have er := b4 _ _ (fr _ (.inl rfl)) er3
    have ek := b4 _ _ (fk _ (.inl rfl)) ek3
    have d5 := d3.a b4 ea4
    have f5 := f3.trans (Dfr.a b4)
    clear b4 er3 ek3 d3 f3 ed3
    have p0 := Int.emod_nonneg x4 (show ((ns.length : Int) + 1) ≠ 0 by omega)
    have p1 := Int.emod_lt_of_pos x4 (show 0 < ((ns.length : Int) + 1) by omega)
    tb_start
    intro x5 m5 H5 ea5 b5
    replace er := b5 _ _ (fr _ (.inl rfl)) er
    replace ek := b5 _ _ (fk _ (.inl rfl)) ek
    replace d5 := d5.a b5 ea5
    replace f5 := f5.trans (Dfr.a b5)
    clear b5 ea4
    tb_start
    intro q1 nq1
    have f_q1 := d5.fresh nq1
    have tG1 : Same H5 (upd H5 q1 (.lst (cutV (ns.map V.int) none (some (x4 % ((ns.length : Int) + 1)))))) := same_new nq1
    have eG1 : (upd H5 q1 (.lst (cutV (ns.map V.int) none (some (x4 % ((ns.length : Int) + 1)))))) q1 = some (.lst ((ns.take (x4 % ((ns.length : Int) + 1)).toNat).map V.int)) := by rw [upd_same, cutI_to ns p0]
    replace er := tG1 _ _ er
    replace ek := tG1 _ _ ek
    replace d5 := d5.same tG1
    replace f5 := f5.trans (Dfr.same tG1)
    clear tG1 nq1
    generalize (upd H5 q1 (.lst (cutV (ns.map V.int) none (some (x4 % ((ns.length : Int) + 1)))))) = G1 at *
    have hl1 : (ns.take (x4 % ((ns.length : Int) + 1)).toNat).length ≤ 1000 := by rw [List.length_take]; omega
    tb_start
    intro q2 nq2
    have f_q2 := d5.fresh nq2
    have tG2 : Same G1 (upd G1 q2 (.lst [.int x5])) := same_new nq2
    have eG2 : (upd G1 q2 (.lst [.int x5])) q2 = some (.lst (([x5] : List Int).map V.int)) := upd_same
    replace er := tG2 _ _ er
    replace ek := tG2 _ _ ek
    replace eG1 := tG2 _ _ eG1
    replace d5 := d5.same tG2
    replace f5 := f5.trans (Dfr.same tG2)
    clear tG2 nq2
    generalize (upd G1 q2 (.lst [.int x5])) = G2 at *
    have hl2 : ([x5] : List Int).length ≤ 10 := by show 1 ≤ 10; decide
    tb_start
    rw [← List.map_append]
    intro q3 nq3
    have f_q3 := d5.fresh nq3
    have tG3 : Same G2 (upd G2 q3 (.lst ((ns.take (x4 % ((ns.length : Int) + 1)).toNat ++ [x5]).map V.int))) := same_new nq3
    have eG3 : (upd G2 q3 (.lst ((ns.take (x4 % ((ns.length : Int) + 1)).toNat ++ [x5]).map V.int))) q3 = some (.lst ((ns.take (x4 % ((ns.length : Int) + 1)).toNat ++ [x5]).map V.int)) := upd_same
    replace er := tG3 _ _ er
    replace ek := tG3 _ _ ek
    replace d5 := d5.same tG3
    replace f5 := f5.trans (Dfr.same tG3)
    clear tG3 nq3
    generalize (upd G2 q3 (.lst ((ns.take (x4 % ((ns.length : Int) + 1)).toNat ++ [x5]).map V.int))) = G3 at *
    have hl3 : (ns.take (x4 % ((ns.length : Int) + 1)).toNat ++ [x5]).length ≤ 1100 := by rw [List.length_append]; omega
    clear eG1 eG2
    tb_start
    intro q4 nq4
    have f_q4 := d5.fresh nq4
    have tG4 : Same G3 (upd G3 q4 (.lst (cutV (ns.map V.int) (some (x4 % ((ns.length : Int) + 1))) none))) := same_new nq4
    have eG4 : (upd G3 q4 (.lst (cutV (ns.map V.int) (some (x4 % ((ns.length : Int) + 1))) none))) q4 = some (.lst ((ns.drop (x4 % ((ns.length : Int) + 1)).toNat).map V.int)) := by rw [upd_same, cutI_from ns (by omega)]
    replace er := tG4 _ _ er
    replace ek := tG4 _ _ ek
    replace eG3 := tG4 _ _ eG3
    replace d5 := d5.same tG4
    replace f5 := f5.trans (Dfr.same tG4)
    clear tG4 nq4
    generalize (upd G3 q4 (.lst (cutV (ns.map V.int) (some (x4 % ((ns.length : Int) + 1))) none))) = G4 at *
    have hl4 : (ns.drop (x4 % ((ns.length : Int) + 1)).toNat).length ≤ 1000 := by rw [List.length_drop]; omega
    tb_start
    rw [← List.map_append]
    intro q5 nq5
    have f_q5 := d5.fresh nq5
    have tG5 : Same G4 (upd G4 q5 (.lst ((ns.take (x4 % ((ns.length : Int) + 1)).toNat ++ [x5] ++ ns.drop (x4 % ((ns.length : Int) + 1)).toNat).map V.int))) := same_new nq5
    have eG5 : (upd G4 q5 (.lst ((ns.take (x4 % ((ns.length : Int) + 1)).toNat ++ [x5] ++ ns.drop (x4 % ((ns.length : Int) + 1)).toNat).map V.int))) q5 = some (.lst ((layd ns (x4 % ((ns.length : Int) + 1)) 0 [x5]).map V.int)) := by rw [upd_same]; unfold layd; rw [Int.add_zero]
    replace ek := tG5 _ _ ek
    replace d5 := d5.same tG5
    replace f5 := f5.trans (Dfr.same tG5)
    clear tG5 nq5
    generalize (upd G4 q5 (.lst ((ns.take (x4 % ((ns.length : Int) + 1)).toNat ++ [x5] ++ ns.drop (x4 % ((ns.length : Int) + 1)).toNat).map V.int))) = G5 at *
    obtain ⟨r0, ks0, hs0, est0, _, _, epl0, rw0, bk0⟩ := d5.row
    have hk1 := rw0.len
    have hk2 := bk0.len
    have hkl : (ks0.map V.ref).length < sizeLine := szl (by rw [List.length_map]; omega)
    obtain ⟨v6, hs6, bk6, k6⟩ := d5.done est0 epl0 eG5 ek f_q5 fk0
    have hset : ([V.ref q5, V.ref pl] : List V) = [V.ref r0, V.ref pl].set (Int.toNat 0) (V.ref q5) := rfl
    rw [hset] at v6 k6
    clear hset rw0 bk0
    obtain ⟨dx6, pn6, mv6, eo6⟩ := v6.ob
    have hll := layd_len (ns := ns) (gs := [x5]) (p := x4 % ((ns.length : Int) + 1)) (m := 0) p0 (by omega) (by omega)
    have hgl : (([x5] : List Int).length : Int) = 1 := rfl
    rw [hgl] at hll
    tb_start
    refine .inl ?_
    tb_start
    intro H7 v7 f7
    obtain ⟨d7, f8⟩ := k6 _ _ v7 f7 (bk6.note (gs := [x5]) p0 (by omega) (by omega) hl) (by omega)
    tb_start
    exact q _ _ _ d7 (by rw [List.length_append]; exact Nat.le_refl _) (undoAll_note (gs := [x5]) p0 (by omega) (by omega)) (f5.trans f8)
end
end Ur
namespace Ur
open PySem L2
/-- at most 240 numbers, a new list -/
def sp__law_draws (K : PySem.W.Frag) : Sp := fun vs H Q _ => ∃ (a : Addr) (ns : List Int), vs = [.ref a] ∧ SqL K H a (ns.map V.int) ∧ ns.length ≤ 63 ∧ ∀ p (ds : List Int) H', H' p = some (.lst (ds.map V.int)) → ds.length ≤ 240 → Same H H' → H p = none → Q (.ref p) H'
section
variable {P : Program} {w : World} {K : PySem.W.Frag} {mg : Str → Option Value} {base : Heap} {A : Adr}
theorem ok__law_draws (T : Txt K mg A) : FnOk P w K mg base CX0 1 A.f__law_draws A.d__law_draws ["script"] (sp__law_draws K) := by
  refine T.F__law_draws.ok sc__law_draws (fun vs H Q E h => ?_) (fun cdv Ar outer s H vs Q E hr h => ?_)
  · obtain ⟨a, ns, rfl, _⟩ := h
    rfl
  · obtain ⟨a, ns, rfl, ha, hl, q⟩ := h
    refine ⟨_, (pss_cons (ps_set (i := 1) sc__law_draws.nd rfl (Or.inl rfl) (pe_lst pa_nil))
    (pss_cons (ps_for PassesOwn.never (by rfl) (pi_range1 (by rfl) T.m_range (pa_cons (Ur.pe_b2 (Ur.call_min2K rfl) (by rfl) T.m_min (by decide +kernel) (Ur.pe_b1 (Ur.call_lenIK (K := K) rfl) (by rfl) T.m_len (by decide +kernel) (pv 0)) pe_int) pa_nil)) (pg_name (i := 2) sc__law_draws.nd rfl (Or.inl rfl)) (pss_cons (ps_set (i := 3) sc__law_draws.nd rfl (Or.inl rfl) (Ur.pe_b1 call_abs (by rfl) T.m_abs (by decide +kernel) (pe_ix (Ur.ix_listK (K := K) rfl) (pv 0) (pv 2) (fun _ _ => rfl))))
    (pss_one (ps_if (pt_cmpR op_lt (pv 3) (pe_op op_pow pe_int pe_int) (nomark _)) (pss_cons (ps_set (i := 4) sc__law_draws.nd rfl (Or.inl rfl) (pe_op op_mod (pe_op op_mul (pe_op op_mod (pe_op op_add (pe_op op_add (pv 3) (pe_op op_mul pe_int (pv 2))) pe_int) pe_int) pe_int) pe_int))
    (pss_cons (ps_set (i := 4) sc__law_draws.nd rfl (Or.inl rfl) (pe_op op_mod (pe_op op_mul (pv 4) (pv 4)) pe_int))
    (pss_cons (ps_expr (pe_bm PySem.F.plainAttrs_list PySem.F.slot_list_append PySem.F.type_list_append mt_append (pv 1) (pa_cons (pe_op op_mod (pe_op op_fdiv (pv 4) pe_int) pe_int) pa_nil)))
    (pss_cons (ps_expr (pe_bm PySem.F.plainAttrs_list PySem.F.slot_list_append PySem.F.type_list_append mt_append (pv 1) (pa_cons (pe_op op_mod (pe_op op_fdiv (pv 4) pe_int) pe_int) pa_nil)))
    (pss_cons (ps_set (i := 4) sc__law_draws.nd rfl (Or.inl rfl) (pe_op op_mod (pe_op op_add (pv 4) (pe_op op_mul pe_int (pe_op op_add (pv 2) pe_int))) pe_int))
    (pss_one (ps_expr (pe_bm PySem.F.plainAttrs_list PySem.F.slot_list_append PySem.F.type_list_append mt_append (pv 1) (pa_cons (pe_op op_mod (pe_op op_fdiv (pe_op op_mod (pe_op op_mul (pv 4) (pv 4)) pe_int) pe_int) pe_int) pa_nil))))))))) (pss_cons (ps_set (i := 5) sc__law_draws.nd rfl (Or.inl rfl) pe_int)
    (pss_one (ps_while PassesOwn.never (PW.pt (pw_and (pt_cmpR op_ge (pv 3) pe_int (nomark _)) (pw_and1 (pt_cmpR op_lt (pv 5) pe_int (nomark _))))) (pss_cons (ps_expr (pe_bm PySem.F.plainAttrs_list PySem.F.slot_list_append PySem.F.type_list_append mt_append (pv 1) (pa_cons (pe_op op_mod (pv 3) pe_int) pa_nil)))
    (pss_cons (ps_set (i := 3) sc__law_draws.nd rfl (Or.inl rfl) (pe_op op_fdiv (pv 3) pe_int))
    (pss_one (ps_set (i := 5) sc__law_draws.nd rfl (Or.inl rfl) (pe_op op_add (pv 5) pe_int))))))))))))
    (pss_one (ps_ret (pe_slice (Ur.sl_listK (K := K) rfl) (pv 1) po_none (po_some pe_int)))))), ?_⟩
    tb_start
    intro D nD
    tb_start
    refine for_range (fun i σ H' => Iv (∃ (u2 u3 u4 u5 : Option V) (ds : List Int), σ = [some (.ref a), some (.ref D), u2, u3, u4, u5] ∧ H' D = some (.lst (ds.map V.int)) ∧ ds.length ≤ 60 * i ∧ Same H H')) ?h0 ?hs ?hd
    case h0 => exact ⟨_, _, _, _, [], rfl, upd_same, Nat.zero_le _, by kcj_in⟩
    case hs =>
      rintro i σ H1 hi ⟨u2, u3, u4, u5, ds, rfl, eD, hdl, s1⟩
      have hi2 : i < 63 := by omega
      have ha1 := s1.seq ha
      tb_start
      refine br (fun hc => ?_) (fun hc => ?_)
      · tb_start
        exact ⟨_, _, _, _, ds ++ [_] ++ [_] ++ [_], rfl, by kct_strs, by simp only [List.length_append, List.length_cons, List.length_nil]; omega, by kcj_in⟩
      · tb_start
        refine while_iv (fun mu σ H' => Iv (∃ (r j : Int) (u4 : Option V) (ds : List Int), σ = [some (.ref a), some (.ref D), some (.int (0 + (i : Int))), some (.int r), u4, some (.int j)] ∧ H' D = some (.lst (ds.map V.int)) ∧ (ds.length : Int) ≤ 60 * i + j ∧ 0 ≤ j ∧ j ≤ 60 ∧ mu = 60 - j.toNat ∧ Same H H')) 60 ?g0 ?gs
        case g0 => exact ⟨_, 0, _, ds, rfl, eD, by omega, by omega, by omega, rfl, s1⟩
        case gs =>
          rintro mu σ H2 ⟨r, j, u4, ds2, rfl, eD2, hd2, j0, j1, rfl, s2⟩
          refine ⟨decide (1000 ≤ r ∧ j < 60), fun Q' q' => ?_, fun hlt => ?_, fun hge => ?_⟩
          · tb_start
            refine br (fun h1 => ?_) (fun h1 => ?_)
            · tb_start
              exact qbl q' (decide_eq_decide.mpr ⟨fun h => ⟨h1, h⟩, fun h => h.2⟩)
            · exact qbl q' (decide_eq_false (fun h => h1 h.1)).symm
          · have hlt' := of_decide_eq_true hlt
            tb_start
            exact ⟨_, by omega, _, _, _, ds2 ++ [_], rfl, by kct_strs, by simp only [List.length_append, List.length_cons, List.length_nil]; omega, by omega, by omega, rfl, by kcj_in⟩
          · exact ⟨_, _, _, _, ds2, rfl, eD2, by omega, s2⟩
    case hd =>
      rintro σ H1 ⟨u2, u3, u4, u5, ds, rfl, eD, hdl, s1⟩
      tb_start
      intro p np
      tb_start
      exact q p (ds.take (240 : Int).toNat) _ (by kct_strs) (by rw [List.length_take]; exact Nat.min_le_left _ _) (by kcj_in) (by cc_off)
end
end Ur
namespace Ur
open PySem L2
/-- a row of at most 300 numbers -/
def sp__law_row (K : PySem.W.Frag) : Sp := fun vs H Q _ => ∃ (a : Addr) (ns : List Int) (mo : Int), vs = [.ref a, .int mo] ∧ H a = some (.lst (ns.map V.int)) ∧ (0 ≤ mo ∧ mo ≤ 300) ∧ ∀ p (r ms : List Int) H', H' p = some (.lst (r.map V.int)) → H' a = some (.lst (ms.map V.int)) → But a H H' → H p = none → r.length ≤ 300 → Q (.ref p) H'
section
variable {P : Program} {w : World} {K : PySem.W.Frag} {mg : Str → Option Value} {base : Heap} {A : Adr}
theorem ok__law_row (T : Txt K mg A) : FnOk P w K mg base CX0 2 A.f__law_row A.d__law_row ["draws", "most"] (sp__law_row K) := by
  have G__law_number := ok__law_number (P := P) (w := w) (base := base) T
  have G__law_take := ok__law_take (P := P) (w := w) (base := base) T
  refine T.F__law_row.ok sc__law_row (fun vs H Q E h => ?_) (fun cdv Ar outer s H vs Q E hr h => ?_)
  · obtain ⟨a, ns, mo, rfl, _⟩ := h
    rfl
  · obtain ⟨a, ns, mo, rfl, ha, hmo, q⟩ := h
    refine ⟨_, (pss_cons (ps_set (i := 2) sc__law_row.nd rfl (Or.inl rfl) (pe_call G__law_take (hr.mono (by decide)) (by rfl) T.g__law_take T.F__law_take.kp T.b__law_take .nil pass0 (pa_cons (pv 0) (pa_cons pe_int pa_nil))))
    (Evl.pss_cut (ps_if (pt_cmpR op_eq (pe_call G__law_take (hr.mono (by decide)) (by rfl) T.g__law_take T.F__law_take.kp T.b__law_take .nil pass0 (pa_cons (pv 0) (pa_cons pe_int pa_nil))) pe_int (nomark _)) (pss_one (ps_set (i := 2) sc__law_row.nd rfl (Or.inl rfl) (pe_ix (Ur.ix_listK (K := K) rfl) (pe_lst (pa_cons (pv 1) (pa_cons (pe_call G__law_take (hr.mono (by decide)) (by rfl) T.g__law_take T.F__law_take.kp T.b__law_take .nil pass0 (pa_cons (pv 0) (pa_cons (pe_op op_add (pv 1) pe_int) pa_nil))) pa_nil))) (pe_call G__law_take (hr.mono (by decide)) (by rfl) T.g__law_take T.F__law_take.kp T.b__law_take .nil pass0 (pa_cons (pv 0) (pa_cons pe_int pa_nil))) (fun _ _ => rfl)))) pss_nil)
    (pss_cons (ps_set (i := 3) sc__law_row.nd rfl (Or.inr rfl) (pe_call G__law_take (hr.mono (by decide)) (by rfl) T.g__law_take T.F__law_take.kp T.b__law_take .nil pass0 (pa_cons (pv 0) (pa_cons pe_int pa_nil))))
    (pss_cons (ps_set (i := 4) sc__law_row.nd rfl (Or.inr rfl) (pe_ix (Ur.ix_listK (K := K) rfl) (pe_lst (pa_cons pe_int (pa_cons pe_int (pa_cons pe_int (pa_cons pe_int (pa_cons pe_int (pa_cons pe_int pa_nil))))))) (pe_call G__law_take (hr.mono (by decide)) (by rfl) T.g__law_take T.F__law_take.kp T.b__law_take .nil pass0 (pa_cons (pv 0) (pa_cons pe_int pa_nil))) (fun _ _ => rfl)))
    (pss_cons (ps_if (pt_cmpR op_lt (pv 2) pe_int (nomark _)) (pss_one (ps_ret (pe_lc (own := [("k", 7)]) (g := gName 7) (by rfl) sc__law_row.nd (pi_range1 (by rfl) T.m_range (pa_cons (pv 2) pa_nil)) (blkOk_by (own := [("k", 7)]) (N := ["draws", "most", "many", "kind", "base", "one", "other", "k"]) (by kernel_rfl)) (fun _ _ _ _ _ => pg_name (i := 7) sc__law_row.nd rfl (Or.inl rfl)) (fun _ _ _ _ _ => pts_nil) (fun _ _ _ _ _ => (pe_call G__law_number (hr.mono (by decide)) (by rfl) T.g__law_number T.F__law_number.kp T.b__law_number .nil pass0 (pa_cons (pv 3) (pa_cons (pe_call G__law_take (hr.mono (by decide)) (by rfl) T.g__law_take T.F__law_take.kp T.b__law_take .nil pass0 (pa_cons (pv 0) (pa_cons (pv 4) pa_nil))) pa_nil))))))) pss_nil)
    (pss_cons (ps_set (i := 5) sc__law_row.nd rfl (Or.inr rfl) (pe_call G__law_take (hr.mono (by decide)) (by rfl) T.g__law_take T.F__law_take.kp T.b__law_take .nil pass0 (pa_cons (pv 0) (pa_cons pe_int pa_nil))))
    (pss_cons (ps_set (i := 6) sc__law_row.nd rfl (Or.inr rfl) (pe_op op_add pe_int (pe_call G__law_take (hr.mono (by decide)) (by rfl) T.g__law_take T.F__law_take.kp T.b__law_take .nil pass0 (pa_cons (pv 0) (pa_cons pe_int pa_nil)))))
    (pss_cons (ps_if (pt_cmpR op_eq (pv 4) pe_int (nomark _)) (pss_one (ps_ret (pe_lc (own := [("k", 7)]) (g := gName 7) (by rfl) sc__law_row.nd (pi_range1 (by rfl) T.m_range (pa_cons (pv 2) pa_nil)) (blkOk_by (own := [("k", 7)]) (N := ["draws", "most", "many", "kind", "base", "one", "other", "k"]) (by kernel_rfl)) (fun _ _ _ _ _ => pg_name (i := 7) sc__law_row.nd rfl (Or.inl rfl)) (fun _ _ _ _ _ => pts_nil) (fun _ _ _ _ _ => (pe_call G__law_number (hr.mono (by decide)) (by rfl) T.g__law_number T.F__law_number.kp T.b__law_number .nil pass0 (pa_cons (pv 3) (pa_cons (pe_op op_mod (pe_op op_add (pe_op op_mul (pv 7) (pe_op op_add pe_int (pe_op op_mod (pv 6) pe_int))) (pv 5)) pe_int) pa_nil))))))) pss_nil)
    (pss_one (ps_ret (pe_lc (own := [("k", 7)]) (g := gName 7) (by rfl) sc__law_row.nd (pi_range1 (by rfl) T.m_range (pa_cons (pv 2) pa_nil)) (blkOk_by (own := [("k", 7)]) (N := ["draws", "most", "many", "kind", "base", "one", "other", "k"]) (by kernel_rfl)) (fun _ _ _ _ _ => pg_name (i := 7) sc__law_row.nd rfl (Or.inl rfl)) (fun _ _ _ _ _ => pts_nil) (fun _ _ _ _ _ => (pe_call G__law_number (hr.mono (by decide)) (by rfl) T.g__law_number T.F__law_number.kp T.b__law_number .nil pass0 (pa_cons (pv 3) (pa_cons (pe_op op_mod (pe_op op_mod (pe_op op_add (pe_op op_add (pe_op op_mul (pe_op op_mul (pv 7) (pv 7)) (pv 5)) (pe_op op_mul (pv 7) (pv 6))) (pe_op op_mul (pe_op op_fdiv (pv 7) pe_int) pe_int)) pe_int) (pv 4)) pa_nil))))))))))))))), ?_⟩
    tb_start
    intro x1 n1 H1 h10 h11 a1 b1
    tb_start
    refine ⟨fun σ H' => Iv (∃ (mm : Int) (ms : List Int) (u3 u4 u5 u6 u7 : Option V), σ = [some (.ref a), some (.int mo), some (.int mm), u3, u4, u5, u6, u7] ∧ (0 ≤ mm ∧ mm ≤ 300) ∧ H' a = some (.lst (ms.map V.int)) ∧ But a H H'), ?_, ?_⟩
    · tb_start
      intro x2 n2 H2 h20 h21 a2 b2
      tb_start
      refine bri (fun _ => ?_) (fun _ => ?_)
      · tb_start
        intro x3 n3 H3 h30 h31 a3 b3
        tb_start
        intro p4 np4
        have hap4 : a ≠ p4 := by kcj_m
        tb_start
        intro x5 n5 H5 h50 h51 a5 b5
        have e5 := b5 _ _ (Ne.symm hap4) upd_same
        have g5 := getD2 (x := mo) (y := x3) (i := x5) (lo := 0) (hi := 300) h50 h51 hmo (by omega)
        tb_start
        exact ⟨_, _, _, _, _, _, _, rfl, g5, a5, by cc_are⟩
      · exact ⟨_, _, _, _, _, _, _, rfl, by omega, a2, by cc_are⟩
    rintro σ H6 ⟨mm, ms, u3, u4, u5, u6, u7, rfl, hmm, a6, b6⟩
    tb_start
    intro x7 n7 H7 h70 h71 a7 b7
    tb_start
    intro p8 np8
    have hap8 : a ≠ p8 := by kcj_m
    tb_start
    intro x9 n9 H9 h90 h91 a9 b9
    have e9 := b9 _ _ (Ne.symm hap8) upd_same
    have g9 := getD6 (x := 2) (y := 3) (z := 5) (w := 12) (u := 200) (v := 300) (i := x9) (lo := 2) (hi := 300) h90 h91 (by omega) (by omega) (by omega) (by omega) (by omega) (by omega)
    have bH : But a H H9 := by cc_are
    clear b9 b7 b6 b1 np8
    tb_start
    generalize [(2 : Int), 3, 5, 12, 200, 300].getD x9.toNat 0 = base at g9 ⊢
    clear e9
    refine br (fun hc => ?_) (fun hc => ?_)
    · tb_start
      intro D nD
      refine lc_rngS (fun o => ∃ ms : List Int, o = .lst (ms.map V.int)) (fun _ => True) a9 ⟨_, rfl⟩ (by omega) nD (fun _ => rfl) ?he ?hd
      case he =>
        rintro k H' o hk b' ao ⟨ms', rfl⟩ Q' q'
        tb_start
        intro x n H'' h0 h1 a' b''
        tb_start
        intro v H3 s3
        exact q' _ _ _ trivial (by cc_are) (s3 _ _ a') ⟨_, rfl⟩
      case hd =>
        rintro H' rs o hl _ b' e' ao ⟨ms', rfl⟩
        exact q _ rs ms' _ e' ao (by cc_are) (by cc_off) (by omega)
    tb_start
    intro x10 n10 H10 h100 h101 a10 b10
    tb_start
    intro x11 n11 H11 h110 h111 a11 b11
    have bH11 : But a H H11 := by cc_are
    clear bH b10 b11
    tb_start
    refine bri (fun _ => ?_) (fun _ => ?_)
    · tb_start
      intro D nD
      refine lc_rngS (fun o => ∃ ms : List Int, o = .lst (ms.map V.int)) (fun _ => True) a11 ⟨_, rfl⟩ (by omega) nD (fun _ => rfl) ?he2 ?hd2
      case he2 =>
        rintro k H' o hk b' ao ⟨ms', rfl⟩ Q' q'
        have hk2 : (k : Int) < 300 := by omega
        tb_start
        intro v H3 s3
        exact q' _ _ _ trivial (by cc_are) (s3 _ _ ao) ⟨_, rfl⟩
      case hd2 =>
        rintro H' rs o hl _ b' e' ao ⟨ms', rfl⟩
        exact q _ rs ms' _ e' ao (by cc_are) (by cc_off) (by omega)
    · tb_start
      intro D nD
      refine lc_rngS (fun o => ∃ ms : List Int, o = .lst (ms.map V.int)) (fun _ => True) a11 ⟨_, rfl⟩ (by omega) nD (fun _ => rfl) ?he3 ?hd3
      case he3 =>
        rintro k H' o hk b' ao ⟨ms', rfl⟩ Q' q'
        have hk2 : (k : Int) < 300 := by omega
        tb_start
        intro v H3 s3
        exact q' _ _ _ trivial (by cc_are) (s3 _ _ ao) ⟨_, rfl⟩
      case hd3 =>
        rintro H' rs o hl _ b' e' ao ⟨ms', rfl⟩
        exact q _ rs ms' _ e' ao (by cc_are) (by cc_off) (by omega)
end
end Ur
namespace Ur
open PySem L2
/-- the first places of a window, by the numbers alone: a new list -/
def sp__law_firsts (K : PySem.W.Frag) : Sp := fun vs H Q _ => ∃ (a : Addr) (f b : Int) (ns : List Int), vs = [.ref a, .int f, .int b] ∧ H a = some (.lst (ns.map V.int)) ∧ 0 ≤ f ∧ f ≤ b ∧ b ≤ ns.length ∧ ns.length ≤ 1000 ∧ ∀ p H', H' p = some (.lst ((firP ns f b).map V.int)) → Same H H' → H p = none → Q (.ref p) H'
section
variable {P : Program} {w : World} {K : PySem.W.Frag} {mg : Str → Option Value} {base : Heap} {A : Adr}
theorem ok__law_firsts (T : Txt K mg A) : FnOk P w K mg base CX0 1 A.f__law_firsts A.d__law_firsts ["row", "first", "behind"] (sp__law_firsts K) := by
  refine T.F__law_firsts.ok sc__law_firsts (fun vs H Q E h => ?_) (fun cdv Ar outer s H vs Q E hr h => ?_)
  · obtain ⟨a, f, b, ns, rfl, _⟩ := h
    rfl
  · obtain ⟨a, f, b, ns, rfl, ha, h0, h1, h2, hl', q⟩ := h
    refine ⟨_, (pss_cons (ps_set (i := 3) sc__law_firsts.nd rfl (Or.inl rfl) pe_dnewK)
    (pss_cons (ps_set (i := 4) sc__law_firsts.nd rfl (Or.inl rfl) (pe_lst pa_nil))
    (pss_cons (ps_for PassesOwn.never (by rfl) (pi_range2 (by rfl) T.m_range (pa_cons (pv 1) (pa_cons (pv 2) pa_nil))) (pg_name (i := 5) sc__law_firsts.nd rfl (Or.inl rfl)) (pss_cons (ps_if (pt_cmp (pc_dnotin (hu_of hr) (pe_ix (Ur.ix_listK (K := K) rfl) (pv 0) (pv 5) (fun _ _ => rfl)) (pv 3))) (pss_one (ps_expr (pe_bm PySem.F.plainAttrs_list PySem.F.slot_list_append PySem.F.type_list_append mt_append (pv 4) (pa_cons (pv 5) pa_nil)))) pss_nil)
    (pss_one (ps_dput (hu_of hr) (pv 3) (pe_ix (Ur.ix_listK (K := K) rfl) (pv 0) (pv 5) (fun _ _ => rfl)) pe_bl rfl))))
    (pss_one (ps_ret (pv 4)))))), ?_⟩
    tb_start
    intro md nmd
    have ham : a ≠ md := by kcj_m
    tb_start
    intro fo nfo
    have haf : a ≠ fo := by kcj_m
    have hmf : md ≠ fo := by kcj_m
    tb_start
    refine for_range (fun i σ H' => Iv (∃ (u5 : Option V) (kvs : List (Key × V)), σ = [some (.ref a), some (.int f), some (.int b), some (.ref md), some (.ref fo), u5] ∧ H' md = some (.dK kvs) ∧ kvs.length ≤ i ∧ (∀ z : Int, (valV kvs (Sum.inl z)).isSome = decide (z ∈ (ns.drop f.toNat).take i)) ∧ H' fo = some (.lst ((firP ns f (f + (i : Int))).map V.int)) ∧ Same H H')) ?h0 ?hs ?hd
    case h0 => exact ⟨_, [], rfl, by kct_strs, Nat.le_refl _, (fun z => rfl), by rw [show f + ((0 : Nat) : Int) = f from by omega, firP_0]; exact upd_same, by kcj_in⟩
    case hd =>
      rintro σ H' ⟨u5, kvs, rfl, em, hkl, hv, ef, s⟩
      rw [show f + ((b - f).toNat : Int) = b from by omega] at ef
      tb_start
      exact q _ _ ef s (by cc_off)
    case hs =>
      rintro i σ H' hi ⟨u5, kvs, rfl, em, hkl, hv, ef, s⟩
      have ha' := s _ _ ha
      have hip : f.toNat + i < ns.length := by omega
      have hl := last_in (ns := ns) (f := f.toNat) (k := i) hip
      have e1 : lastAt ns (f.toNat + i) (ns.getD (f.toNat + i) 0) = lp ns (f.toNat + i) := rfl
      rw [e1, show ((f.toNat : Nat) : Int) = f from by omega] at hl
      have e2 : (ns.drop f.toNat).take (i + 1) = (ns.drop f.toNat).take i ++ [ns.getD (f.toNat + i) 0] := by
        rw [List.take_add_one, List.getElem?_drop, get_of (by omega)]; rfl
      have e3 := firP_s (ns := ns) (f := f) (k := i) h0
      have e4 : (f + (i : Int)).toNat = f.toNat + i := by omega
      have hlf : (firP ns f (f + (i : Int))).length ≤ 1000 := by
        rw [firP_len h0 (by omega) (by omega)]
        exact Nat.le_trans wun_le hl'
      have hh := hv (ns.getD (f + (i : Int)).toNat 0)
      have e5 : f + ((i + 1 : Nat) : Int) = f + (i : Int) + 1 := by omega
      have hnew : ∀ z : Int, (valV (putK kvs (Sum.inl (ns.getD (f + (i : Int)).toNat 0)) (.bl true)) (Sum.inl z)).isSome = decide (z ∈ (ns.drop f.toNat).take (i + 1)) := fun z => by
        rw [val_put, e2, e4]
        by_cases e : z = ns.getD (f.toNat + i) 0
        · rw [if_pos e, decide_eq_true (List.mem_append.mpr (.inr (List.mem_singleton.mpr e)))]; rfl
        · rw [if_neg e, hv z]
          refine decide_eq_decide.mpr ⟨fun h => List.mem_append.mpr (.inl h), fun h => (List.mem_append.mp h).elim id fun h => absurd (List.mem_singleton.mp h) e⟩
      tb_start
      rw [hh, e4]
      rw [e4] at hnew
      refine brn (fun hn => ?_) (fun hn => ?_)
      · have hc : lp ns (f.toNat + i) < f := Decidable.of_not_not fun z => hn (hl.mpr z)
        rw [if_pos hc] at e3
        tb_start
        refine ⟨_, _, rfl, by kct_strs, Nat.le_trans (putK_le _ _ _) (by omega), ?_, ?_, by kcj_in⟩
        · rw [e4]; exact hnew
        · rw [e5, e3]
          kct_strs
      · have hc : ¬ lp ns (f.toNat + i) < f := hl.mp hn
        rw [if_neg hc, List.append_nil] at e3
        tb_start
        refine ⟨_, _, rfl, by kct_strs, Nat.le_trans (putK_le _ _ _) (by omega), ?_, ?_, by kcj_in⟩
        · rw [e4]; exact hnew
        · rw [e5, e3]
          kct_strs
end
end Ur
namespace Ur
open PySem L2
/-- a window's answers, as reckoned here: True -/
def sp__law_window_right (K : PySem.W.Frag) (C CR : Addr) : Sp := fun vs H Q _ => ∃ (L : Addr → Prop) (o pc b : Addr) (ns : List Int) (cs : List (Int × Int × List Int)) (f e : Int), vs = [.ref o, .ref b, .int f, .int e] ∧ Liv C CR L o pc H ns cs ∧ H b = some (.lst (ns.map V.int)) ∧ b ≠ pc ∧ 0 ≤ f ∧ f ≤ e ∧ e ≤ ns.length ∧ ∀ H', Liv C CR L o pc H' ns cs → Fr o pc H H' → Q (.bl true) H'
section
variable {P : Program} {w : World} {K : PySem.W.Frag} {mg : Str → Option Value} {base : Heap} {A : Adr}
theorem ok__law_window_right (T : Txt K mg A) : FnOk P w K mg base CX0 7 A.f__law_window_right A.d__law_window_right ["live", "row", "first", "behind"] (sp__law_window_right K A.c_Live A.c_Ready) := by
  have G_Live_firsts := ok_Live_firsts (P := P) (w := w) (base := base) T
  have G_Live_unlike := ok_Live_unlike (P := P) (w := w) (base := base) T
  have G__law_firsts := ok__law_firsts (P := P) (w := w) (base := base) T
  have G__law_whole := ok__law_whole (P := P) (w := w) (base := base) T
  refine T.F__law_window_right.ok sc__law_window_right (fun vs H Q E h => ?_) (fun cdv Ar outer s H vs Q E hr h => ?_)
  · obtain ⟨L, o, pc, b, ns, cs, f, e, rfl, _⟩ := h
    rfl
  · have C_Live := T.C_Live
    have n_Live_numbers := T.n_Live_numbers
    have n_Live_changes := T.n_Live_changes
    have n_Live_made := T.n_Live_made
    obtain ⟨L, o, pc, b, ns, cs, f, e, rfl, v, hb, hbc, h0, h1, h2, q⟩ := h
    have hnl := v.len
    refine ⟨_, (pss_cons (ps_set (i := 4) sc__law_window_right.nd rfl (Or.inl rfl) (pe_call G__law_firsts (hr.mono (by decide)) (by rfl) T.g__law_firsts T.F__law_firsts.kp T.b__law_firsts .nil pass0 (pa_cons (pv 1) (pa_cons (pv 2) (pa_cons (pv 3) pa_nil)))))
    (pss_cons (ps_set (i := 5) sc__law_window_right.nd rfl (Or.inl rfl) (pe_meth (pv 0) T.C_Live T.M_Live_firsts G_Live_firsts (hr.mono (by decide)) T.b_Live_firsts .nil passL (pa_cons (pv 2) (pa_cons (pv 3) pa_nil))))
    (pss_cons (ps_set (i := 6) sc__law_window_right.nd rfl (Or.inl rfl) (pe_meth (pv 0) T.C_Live T.M_Live_unlike G_Live_unlike (hr.mono (by decide)) T.b_Live_unlike .nil passL (pa_cons (pv 2) (pa_cons (pv 3) pa_nil))))
    (pss_cons (ps_if (PW.pt (pw_or (pt_not (pt_val (Ur.pe_b2 (Ur.call_isiK (K := K) rfl) (by rfl) T.m_isinstance (by decide +kernel) (pv 5) (pe_bltn (v := .ty "list") (by rfl) T.m_list (by decide +kernel) rfl)))) (pw_or (pt_cmpR (Ur.op_neDK (K := K) rfl hr.units) (pv 5) (pv 4) (nomark _)) (pw_or (pt_not (pt_val (pe_call G__law_whole (hr.mono (by decide)) (by rfl) T.g__law_whole T.F__law_whole.kp T.b__law_whole .nil pass0 (pa_cons (pv 6) pa_nil)))) (pw_or1 (pt_cmpR op_ne (pv 6) (Ur.pe_b1 (Ur.call_lenIK (K := K) rfl) (by rfl) T.m_len (by decide +kernel) (pv 4)) (nomark _))))))) (pss_one (ps_ret pe_bl)) pss_nil)
    (pss_cons (ps_expr (pe_bm PySem.F.plainAttrs_list PySem.F.slot_list_append PySem.F.type_list_append mt_append (pv 5) (pa_cons pe_non pa_nil)))
    (pss_cons (ps_if (pt_cmpR (Ur.op_neDK (K := K) rfl hr.units) (pv 4) (pe_lst pa_nil) (nomark _)) (pss_one (ps_asg pe_non (pg_sub (pv 5) pe_int set_list))) pss_nil)
    (pss_one (ps_ret (pe_cmpR (Ur.op_eqDK (K := K) rfl hr.units) (pe_meth (pv 0) T.C_Live T.M_Live_firsts G_Live_firsts (hr.mono (by decide)) T.b_Live_firsts .nil passL (pa_cons (pv 2) (pa_cons (pv 3) pa_nil))) (pv 4) (nomark _)))))))))), ?_⟩
    tb_start
    intro d H1 e1 s1 n1
    have v1 := v.same s1
    obtain ⟨dx1, pn1, mv1, eo1⟩ := v1.ob
    have hdo : d ≠ o := fun z => by obtain ⟨dx, pn, mv, eo⟩ := v.ob; rw [z, eo] at n1; cases n1
    have hdc : d ≠ pc := fun z => by obtain ⟨ts, ec, _⟩ := v.chs; rw [z, ec] at n1; cases n1
    tb_start
    refine .inl ?_
    tb_start
    intro p H2 e2 np2 hpo hpc v2 v2p f2
    have hdp : d ≠ p := fun z => by rw [z, np2] at e1; cases e1
    have hpd := Ne.symm hdp
    have ed2 : H2 d = some (.lst ((firP ns f e).map V.int)) := f2 _ _ hdo hdc e1
    have f02 : Fr o pc H H2 := (Fr.same s1).trans f2
    have np0 : H p = none := s1.free np2
    clear s1 n1 e1 f2 v1 np2 eo1
    obtain ⟨dx2, pn2, mv2, eo2⟩ := v2.ob
    tb_start
    refine .inl ?_
    tb_start
    intro H3 v3 f3
    have e3 := f3 _ _ hpo hpc e2
    have ed3 := f3 _ _ hdo hdc ed2
    have f03 := f02.trans f3
    have hfl := firP_len h0 h1 h2
    have hwl : wun ns f e ≤ ns.length := wun_le
    clear e2 ed2 v2 v2p f3 f02 eo2
    tb_start
    refine brni (fun hn => absurd (by rw [hfl]) hn) (fun _ => ?_)
    have hb4 : But p H3 (upd H3 p (.lst ((firP ns f e).map V.int ++ [V.non]))) := but_at but_refl
    have v4 := v3.but (.inr rfl) hb4 upd_same
    have hll : ((firP ns f e).map V.int).length < sizeLine := szl (by rw [List.length_map]; omega)
    have ed4 := hb4 _ _ hdp ed3
    have e4 : (upd H3 p (.lst ((firP ns f e).map V.int ++ [V.non]))) p = some (.lst ((firP ns f e).map V.int ++ [V.non])) := upd_same
    have f04 := f03.fresh hb4 np0
    tb_start
    generalize (upd H3 p (.lst ((firP ns f e).map V.int ++ [V.non]))) = H4 at *
    intro q5 nq5
    have hpq : p ≠ q5 := by kcj_m
    have hdq : d ≠ q5 := by kcj_m
    have s5 : Same H4 (upd H4 q5 (.lst [])) := same_new nq5
    have e5 := s5 _ _ e4
    have ed5 := s5 _ _ ed4
    have v5 := v4.same s5
    have f05 := f04.trans (Fr.same s5)
    have eq5 : (upd H4 q5 (.lst [])) q5 = some (.lst []) := upd_same
    clear s5 v4 e4 ed4 f04 hb4 v3 e3 ed3 f03
    tb_start
    generalize (upd H4 q5 (.lst [])) = H5 at *
    have hix := ix0 (xs := (firP ns f e).map V.int) (v := .non)
    refine brn (fun _ => ?_) (fun _ => ?_)
    · have hb6 : But p H5 (upd H5 p (.lst (((firP ns f e).map V.int ++ [V.non]).set 0 V.non))) := but_at but_refl
      have v6 := v5.but (.inr rfl) hb6 upd_same
      have ed6 := hb6 _ _ hdp ed5
      have f06 := f05.fresh hb6 np0
      obtain ⟨dx6, pn6, mv6, eo6⟩ := v6.ob
      tb_start
      generalize (upd H5 p (.lst (((firP ns f e).map V.int ++ [V.non]).set 0 V.non))) = H6 at *
      refine .inl ?_
      tb_start
      intro p7 H7 e7 np7 hpo7 hpc7 v7 v7p f7
      have ed7 := f7 _ _ hdo hdc ed6
      tb_start
      exact qbv (q _ (v7.sub fun b h => .inl h) (f06.trans f7)) (decide_eq_true rfl)
    · obtain ⟨dx6, pn6, mv6, eo6⟩ := v5.ob
      tb_start
      refine .inl ?_
      tb_start
      intro p7 H7 e7 np7 hpo7 hpc7 v7 v7p f7
      have ed7 := f7 _ _ hdo hdc ed5
      tb_start
      exact qbv (q _ (v7.sub fun b h => .inl h) (f05.trans f7)) (decide_eq_true rfl)
end
end Ur
namespace Ur
open PySem L2
/-- the law holds -/
def sp_law (K : PySem.W.Frag) : Sp := fun vs H Q _ => ∃ (a : Addr) (ns : List Int), vs = [.ref a] ∧ SqL K H a (ns.map V.int) ∧ ns.length ≤ 63 ∧ ∀ H', Q (.bl true) H'
section
variable {P : Program} {w : World} {K : PySem.W.Frag} {mg : Str → Option Value} {base : Heap} {A : Adr}
theorem ok_law (T : Txt K mg A) : FnOk P w K mg base CX0 8 A.f_law A.d_law ["script"] (sp_law K) := by
  have G_Live___init__ := ok_Live___init__ (P := P) (w := w) (base := base) T
  have G_Live_row := ok_Live_row (P := P) (w := w) (base := base) T
  have G_Live_undo := ok_Live_undo (P := P) (w := w) (base := base) T
  have G__law_any := ok__law_any (P := P) (w := w) (base := base) T
  have G__law_bad_place := ok__law_bad_place (P := P) (w := w) (base := base) T
  have G__law_bad_window := ok__law_bad_window (P := P) (w := w) (base := base) T
  have G__law_caught := ok__law_caught (P := P) (w := w) (base := base) T
  have G__law_deed := ok__law_deed (P := P) (w := w) (base := base) T
  have G__law_draws := ok__law_draws (P := P) (w := w) (base := base) T
  have G__law_row := ok__law_row (P := P) (w := w) (base := base) T
  have G__law_take := ok__law_take (P := P) (w := w) (base := base) T
  have G__law_window_right := ok__law_window_right (P := P) (w := w) (base := base) T
  refine T.F_law.ok sc_law (fun vs H Q E h => ?_) (fun cdv Ar outer s H vs Q E hr h => ?_)
  · obtain ⟨a, ns, rfl, _⟩ := h
    rfl
  · have C_Live := T.C_Live
    have n_Live_numbers := T.n_Live_numbers
    have n_Live_changes := T.n_Live_changes
    have n_Live_made := T.n_Live_made
    obtain ⟨a, ns, rfl, ha, hl, q⟩ := h
    refine ⟨_, (pss_cons (ps_set (i := 1) sc_law.nd rfl (Or.inl rfl) (pe_call G__law_draws (hr.mono (by decide)) (by rfl) T.g__law_draws T.F__law_draws.kp T.b__law_draws .nil pass0 (pa_cons (pv 0) pa_nil)))
    (pss_cons (ps_set (i := 2) sc_law.nd rfl (Or.inl rfl) (pe_call G__law_row (hr.mono (by decide)) (by rfl) T.g__law_row T.F__law_row.kp T.b__law_row .nil pass0 (pa_cons (pv 1) (pa_cons pe_int pa_nil))))
    (pss_cons (ps_set (i := 3) sc_law.nd rfl (Or.inl rfl) (pe_make T.M_Live G_Live___init__ (hr.mono (by decide)) (by rfl) T.g_Live T.b_Live___init__ .nil pass0 (pa_cons (Ur.pe_t1 (Ur.call_list_ofK (K := K) rfl) (by rfl) T.m_list (by decide +kernel) (pv 2)) pa_nil)))
    (pss_cons (ps_set (i := 4) sc_law.nd rfl (Or.inl rfl) (pe_lst (pa_cons (Ur.pe_t1 (Ur.call_list_ofK (K := K) rfl) (by rfl) T.m_list (by decide +kernel) (pv 2)) (pa_cons (pe_lst pa_nil) pa_nil))))
    (pss_cons (ps_set (i := 5) sc_law.nd rfl (Or.inl rfl) pe_int)
    (pss_cons (ps_while PassesOwn.never (PW.pt (pw_or (pt_cmpR op_lt (pv 5) pe_int (nomark _)) (pw_or1 (PW.pt (pw_and (pt_cmpR (Ur.op_neDK (K := K) rfl hr.units) (pv 1) (pe_lst pa_nil) (nomark _)) (pw_and1 (pt_cmpR op_lt (pv 5) pe_int (nomark _)))))))) (pss_cons (ps_for PassesOwn.never (by rfl) (pi_range1 (by rfl) T.m_range (pa_cons (pe_call G__law_take (hr.mono (by decide)) (by rfl) T.g__law_take T.F__law_take.kp T.b__law_take .nil pass0 (pa_cons (pv 1) (pa_cons pe_int pa_nil))) pa_nil)) (pg_name (i := 6) sc_law.nd rfl (Or.inl rfl)) (pss_one (ps_if (pt_not (pt_val (pe_call G__law_deed (hr.mono (by decide)) (by rfl) T.g__law_deed T.F__law_deed.kp T.b__law_deed .nil pass0 (pa_cons (pv 1) (pa_cons (pv 3) (pa_cons (pv 4) pa_nil)))))) (pss_one (ps_ret pe_bl)) pss_nil)))
    (pss_cons (ps_set (i := 7) sc_law.nd rfl (Or.inl rfl) (pe_call G__law_take (hr.mono (by decide)) (by rfl) T.g__law_take T.F__law_take.kp T.b__law_take .nil pass0 (pa_cons (pv 1) (pa_cons pe_int pa_nil))))
    (Evl.pss_cut (ps_if (pt_cmpR op_ne (pe_call G__law_caught (hr.mono (by decide)) (by rfl) T.g__law_caught T.F__law_caught.kp T.b__law_caught .nil pass0 (pa_cons (pv 3) (pa_cons (pv 7) (pa_cons (pe_call G__law_bad_place (hr.mono (by decide)) (by rfl) T.g__law_bad_place T.F__law_bad_place.kp T.b__law_bad_place .nil pass0 (pa_cons (pv 1) (pa_cons (Ur.pe_b1 (Ur.call_lenIK (K := K) rfl) (by rfl) T.m_len (by decide +kernel) (pe_ix (Ur.ix_listK (K := K) rfl) (pv 4) pe_int (fun _ _ => rfl))) (pa_cons (Ur.pe_t1 call_int1 (by rfl) T.m_int (by decide +kernel) (pe_cmpR op_eq (pv 7) pe_int (nomark _))) pa_nil)))) (pa_cons (pe_call G__law_any (hr.mono (by decide)) (by rfl) T.g__law_any T.F__law_any.kp T.b__law_any .nil pass0 (pa_cons (pv 1) pa_nil)) pa_nil))))) pe_int (nomark _)) (pss_one (ps_ret pe_bl)) pss_nil)
    (pss_cons (ps_asg (pe_call G__law_bad_window (hr.mono (by decide)) (by rfl) T.g__law_bad_window T.F__law_bad_window.kp T.b__law_bad_window .nil pass0 (pa_cons (pv 1) (pa_cons (Ur.pe_b1 (Ur.call_lenIK (K := K) rfl) (by rfl) T.m_len (by decide +kernel) (pe_ix (Ur.ix_listK (K := K) rfl) (pv 4) pe_int (fun _ _ => rfl))) pa_nil))) (pg_tup (by rfl) (pgs_cons (pg_name (i := 8) sc_law.nd rfl (Or.inl rfl)) (pgs_cons (pg_name (i := 9) sc_law.nd rfl (Or.inl rfl)) pgs_nil))))
    (pss_cons (ps_if (PW.pt (pw_or (pt_cmpR op_ne (pe_call G__law_caught (hr.mono (by decide)) (by rfl) T.g__law_caught T.F__law_caught.kp T.b__law_caught .nil pass0 (pa_cons (pv 3) (pa_cons pe_int (pa_cons (pv 8) (pa_cons (pv 9) pa_nil))))) pe_int (nomark _)) (pw_or1 (pt_cmpR op_ne (pe_call G__law_caught (hr.mono (by decide)) (by rfl) T.g__law_caught T.F__law_caught.kp T.b__law_caught .nil pass0 (pa_cons (pv 3) (pa_cons pe_int (pa_cons (pv 8) (pa_cons (pv 9) pa_nil))))) pe_int (nomark _))))) (pss_one (ps_ret pe_bl)) pss_nil)
    (pss_cons (ps_if (PW.pt (pw_or (pt_cmpR (Ur.op_neDK (K := K) rfl hr.units) (pe_meth0 (pv 3) T.C_Live T.M_Live_row G_Live_row (hr.mono (by decide)) T.b_Live_row .nil pass0) (pe_ix (Ur.ix_listK (K := K) rfl) (pv 4) pe_int (fun _ _ => rfl)) (nomark _)) (pw_or1 (pt_not (pt_val (pe_call G__law_window_right (hr.mono (by decide)) (by rfl) T.g__law_window_right T.F__law_window_right.kp T.b__law_window_right .nil pass0 (pa_cons (pv 3) (pa_cons (pe_ix (Ur.ix_listK (K := K) rfl) (pv 4) pe_int (fun _ _ => rfl)) (pa_cons pe_int (pa_cons (Ur.pe_b1 (Ur.call_lenIK (K := K) rfl) (by rfl) T.m_len (by decide +kernel) (pe_ix (Ur.ix_listK (K := K) rfl) (pv 4) pe_int (fun _ _ => rfl))) pa_nil)))))))))) (pss_one (ps_ret pe_bl)) pss_nil)
    (pss_one (ps_set (i := 5) sc_law.nd rfl (Or.inl rfl) (pe_op op_add (pv 5) pe_int))))))))))
    (pss_cons (ps_for PassesOwn.never (by rfl) (pi_list (pe_revL (pe_ix (Ur.ix_listK (K := K) rfl) (pv 4) pe_int (fun _ _ => rfl)))) (pg_name (i := 10) sc_law.nd rfl (Or.inl rfl)) (pss_one (ps_if (PW.pt (pw_or (pt_cmpR op_notBl (pe_meth0 (pv 3) T.C_Live T.M_Live_undo G_Live_undo (hr.mono (by decide)) T.b_Live_undo .nil pass0) pe_bl (nomark _)) (pw_or1 (pt_cmpR (Ur.op_neDK (K := K) rfl hr.units) (pe_meth0 (pv 3) T.C_Live T.M_Live_row G_Live_row (hr.mono (by decide)) T.b_Live_row .nil pass0) (pv 10) (nomark _))))) (pss_one (ps_ret pe_bl)) pss_nil)))
    (pss_one (ps_ret (pe_and (pe_cmpR op_isBl (pe_meth0 (pv 3) T.C_Live T.M_Live_undo G_Live_undo (hr.mono (by decide)) T.b_Live_undo .nil pass0) pe_bl (nomark _)) (pe_one (pe_cmpR (Ur.op_eqDK (K := K) rfl hr.units) (pe_meth0 (pv 3) T.C_Live T.M_Live_row G_Live_row (hr.mono (by decide)) T.b_Live_row .nil pass0) (pv 2) (nomark _))))))))))))), ?_⟩
    tb_start
    intro p1 ds H1 e1 hdl s1 n1
    clear s1 n1
    tb_start
    intro p2 r ms2 H2 e2 a2 b2 n2 hl2
    have h12 : p1 ≠ p2 := by kcj_m
    clear e1 b2 n2
    tb_start
    intro ph nph
    have h1h : p1 ≠ ph := by kcj_m
    have h2h : p2 ≠ ph := by kcj_m
    have eh : (upd H2 ph (.lst (r.map V.int))) ph = some (.lst (r.map V.int)) := upd_same
    have e1 : (upd H2 ph (.lst (r.map V.int))) p1 = some (.lst (ms2.map V.int)) := by kct_strs
    have e22 : (upd H2 ph (.lst (r.map V.int))) p2 = some (.lst (r.map V.int)) := by kct_strs
    clear e2 a2 nph
    generalize (upd H2 ph (.lst (r.map V.int))) = H3 at *
    tb_start
    intro o dxo no ndo neo
    refine mk_live (CR := A.c_Ready) (ns := r) no ndo neo eh (by omega) (fun pc H4 v4 s4 npc => ?_)
    have e14 := s4 _ _ e1
    have e24 := s4 _ _ e22
    have L1 : H3 p1 ≠ none := by rw [e1]; exact fun k => nomatch k
    have L2' : H3 p2 ≠ none := by rw [e22]; exact fun k => nomatch k
    have o2 : p2 ≠ o ∧ p2 ≠ pc := ⟨Ne.symm (v4.off p2 L2').1, Ne.symm (v4.off p2 L2').2⟩
    clear s4 no ndo neo eh e1 e22
    tb_start
    intro q2 nq2
    have e2q : (upd H4 q2 (.lst (r.map V.int))) q2 = some (.lst (r.map V.int)) := upd_same
    have n2q : p2 ≠ q2 := by kcj_m
    tb_start
    intro pl npl
    have n2pl : p2 ≠ pl := by kcj_m
    tb_start
    intro st nst
    have n2st : p2 ≠ st := by kcj_m
    have d := Dst.init v4 L1 e14 nq2 npl nst (by omega)
    have e2 : (upd (upd (upd H4 q2 (.lst (r.map V.int))) pl (.lst [])) st (.lst [.ref q2, .ref pl])) p2 = some (.lst (r.map V.int)) := by rw [upd_ne n2st, upd_ne n2pl, upd_ne n2q]; exact e24
    have nb2 : ¬ Dbr p1 st pl o pc p2 := fun z => by
      rcases z with z | z | z | z | z
      · exact h12 z.symm
      · exact n2st z
      · exact n2pl z
      · exact o2.1 z
      · exact o2.2 z
    generalize (upd (upd (upd H4 q2 (.lst (r.map V.int))) pl (.lst [])) st (.lst [.ref q2, .ref pl])) = HY at *
    generalize (fun b => (H3 b ≠ none ∨ b = pl) ∨ b = st) = L at *
    clear v4 e14 e24 nq2 npl nst e2q L1 L2' npc h12 h1h h2h n2q n2pl n2st
    tb_start
    refine while_t (fun mu σ H' => Iv (∃ (k : Int) (cs : List (Int × Int × List Int)) (ns : List Int) (u6 u7 u8 u9 u10 : Option V), σ = [some (.ref a), some (.ref p1), some (.ref p2), some (.ref o), some (.ref st), some (.int k), u6, u7, u8, u9, u10] ∧ Dst A.c_Live A.c_Ready L p1 o st pl pc H' ns cs ∧ undoAll ns cs = r ∧ H' p2 = some (.lst (r.map V.int)) ∧ cs.length ≤ k.toNat ∧ 0 ≤ k ∧ k ≤ 20 ∧ mu = 20 - k.toNat)) 20 ?h0 ?ht ?hs ?hd
    case h0 => exact ⟨0, [], r, _, _, _, _, _, rfl, d, rfl, e2, Nat.le_refl _, by omega, by omega, rfl⟩
    case ht =>
      rintro mu σ H2 ⟨k, cs, ns, u6, u7, u8, u9, u10, rfl, d2, hu, e22, hc, k0, k4, rfl⟩ Q2 q2
      obtain ⟨ds2, e2⟩ := d2.draws
      tb_start
      refine br (fun h1 => ?_) (fun h1 => ?_)
      · exact q2 _ _ (by kcj_in) (fun _ => by omega)
      · tb_start
        intro p np
        tb_start
        refine brn (fun h2 => ?_) (fun h2 => ?_)
        · tb_start
          exact q2 _ _ (by kcj_in) (fun h => by have := of_decide_eq_true h; omega)
        · exact q2 _ _ (by kcj_in) (fun h => nomatch h)
    case hd =>
      rintro mu σ H2 H3 ⟨k, cs, ns, u6, u7, u8, u9, u10, rfl, d2, hu, e22, hc, k0, k4, rfl⟩ s3
      have d3 := d2.same s3
      have e23 := s3 _ _ e22
      clear d2 e22 s3 d e2
      obtain ⟨r3, ks3, hs3, es3, er3, fr3, ep3, rw3, bk3⟩ := d3.row
      have v3 := d3.liv
      have hks := rw3.len
      have hbl := bk3.len
      tb_start
      intro rv nv
      have sv : Same H3 (upd H3 rv (.lst (ks3.map V.ref).reverse)) := same_new nv
      have ev : (upd H3 rv (.lst (ks3.map V.ref).reverse)) rv = some (.lst (ks3.map V.ref).reverse) := upd_same
      have fv := d3.fresh nv
      have v4 := v3.same sv
      have rw4 := rw3.fr (fun b w _ e => sv b w e)
      have e24 := sv _ _ e23
      clear sv nv v3 d3 rw3 e23 es3 er3 ep3
      tb_start
      generalize (upd H3 rv (.lst (ks3.map V.ref).reverse)) = H4 at *
      refine for_list (xs := (ks3.map V.ref).reverse) (fun i σ Hc => Iv (∃ (ms : List Int) (cs' : List (Int × Int × List Int)) (u10 : Option V), σ = [some (.ref a), some (.ref p1), some (.ref p2), some (.ref o), some (.ref st), some (.int k), u6, u7, u8, u9, u10] ∧ Liv A.c_Live A.c_Ready L o pc Hc ms cs' ∧ Back ms cs' (hs3.take (hs3.length - i)) ∧ undoAll ms cs' = r ∧ Fr o pc H4 Hc)) ?t0 ?tl ?ts ?td
      case t0 => exact ⟨ns, cs, _, rfl, v4, by rw [Nat.sub_zero, List.take_length]; exact bk3, hu, fun b v _ _ e => e⟩
      case tl =>
        rintro i σ Hc hi ⟨ms, cs', u10, rfl, vc, bc, uc, fc⟩
        exact SqL.of (fc _ _ (fv _ (.inr (.inl rfl))) (fv _ (.inr (.inr rfl))) ev)
      case ts =>
        rintro i x σ Hc hx ⟨ms, cs', u10, rfl, vc, bc, uc, fc⟩
        rw [← List.map_reverse, List.getElem?_map] at hx
        obtain ⟨l, hl', rfl⟩ := Option.map_eq_some_iff.mp hx
        obtain ⟨hi, hat⟩ := rev_at hl'
        obtain ⟨m, hm, el, fl⟩ := rw4.row _ _ hat
        rw [hks] at hi hm
        rw [take_cut hi hm] at bc
        rcases bc.last with ⟨_, hz⟩ | ⟨c, m', cs2, hs2, hcs, hhs, bk2, hly, hcb, _⟩
        · exact absurd hz (by simp)
        obtain ⟨rfl, hmm⟩ := List.append_inj' hhs rfl
        cases hmm
        obtain ⟨dxc, pnc, mvc, eoc⟩ := vc.ob
        have elc := fc _ _ (fl _ (.inr (.inl rfl))) (fl _ (.inr (.inr rfl))) el
        tb_start
        refine ⟨fun e => absurd e (by rw [hcs]; simp), fun ds2 c2 e => ?_⟩
        obtain ⟨rfl, rfl⟩ : ds2 = cs2 ∧ c2 = c := by
          rw [hcs] at e
          obtain ⟨e1, e2⟩ := List.append_inj' e rfl
          exact ⟨e1.symm, (List.cons.inj e2).1.symm⟩
        refine ⟨hcb, fun H5 v5 f5 => ?_⟩
        rw [hly] at v5
        have el5 := f5 _ _ (fl _ (.inr (.inl rfl))) (fl _ (.inr (.inr rfl))) elc
        obtain ⟨dx5, pn5, mv5, eo5⟩ := v5.ob
        rw [hcs, undoAll_snoc, hly] at uc
        clear vc eoc elc
        tb_start
        intro p6 H6 e6 s6 n6
        have el6 := s6 _ _ el5
        have v6 := v5.same s6
        tb_start
        exact ⟨_, _, _, rfl, v6, bk2, uc, (fc.trans f5).trans (Fr.same s6)⟩
      case td =>
        rintro σ Hc ⟨ms, cs', u10, rfl, vc, bc, uc, fc⟩
        rw [List.length_reverse, List.length_map, hks, Nat.sub_self, List.take_zero] at bc
        have hc0 : cs' = [] := List.eq_nil_of_length_eq_zero (by rw [bc.len]; rfl)
        subst hc0
        have hr0 : ms = r := uc
        subst hr0
        have e2c := fc _ _ o2.1 o2.2 e24
        obtain ⟨dxc, pnc, mvc, eoc⟩ := vc.ob
        tb_start
        refine ⟨fun _ H5 v5 f5 => ?_, fun ds2 c2 e => absurd e.symm (by simp)⟩
        have e25 := f5 _ _ o2.1 o2.2 e2c
        obtain ⟨dx5, pn5, mv5, eo5⟩ := v5.ob
        tb_start
        intro p6 H6 e6 s6 n6
        have e26 := s6 _ _ e25
        tb_start
        exact qbv (q _) (decide_eq_true rfl)
    case hs =>
      rintro mu σ H2 H3 ⟨k, cs, ns, u6, u7, u8, u9, u10, rfl, d2, hu, e22, hc, k0, k4, rfl⟩ hm s3
      have d3 := d2.same s3
      have e23 := s3 _ _ e22
      clear s3 d2 d e22 e2
      obtain ⟨ds3, e3⟩ := d3.draws
      tb_start
      intro x4 m4 H4 h40 h41 e14 b4
      have d4 := d3.a b4 e14
      have e24 := b4 _ _ (fun z => nb2 (.inl z)) e23
      clear d3 e23 e3 b4 e14
      tb_start
      refine for_range (fun i σ H' => Iv (∃ (cs' : List (Int × Int × List Int)) (ns' : List Int) (u6 : Option V), σ = [some (.ref a), some (.ref p1), some (.ref p2), some (.ref o), some (.ref st), some (.int k), u6, u7, u8, u9, u10] ∧ Dst A.c_Live A.c_Ready L p1 o st pl pc H' ns' cs' ∧ undoAll ns' cs' = r ∧ H' p2 = some (.lst (r.map V.int)) ∧ cs'.length ≤ k.toNat + i)) ?f0 ?fs ?fd
      case f0 => exact ⟨cs, ns, _, rfl, d4, hu, e24, by omega⟩
      case fs =>
        rintro i σ H5 hi ⟨cs5, ns5, u6, rfl, d5, hu5, e25, hc5⟩
        tb_start
        intro ns6 cs6 H6 d6 hc6 hu6 f6
        tb_start
        exact ⟨_, _, _, rfl, d6, hu6.trans hu5, f6 _ _ nb2 e25, by omega⟩
      case fd =>
        rintro σ H5 ⟨cs5, ns5, u6, rfl, d5, hu5, e25, hc5⟩
        have hc5' : cs5.length ≤ (k + 1).toNat := by omega
        obtain ⟨ds5, e5⟩ := d5.draws
        clear d4 hu e24
        tb_start
        intro x6 m6 H6 h60 h61 e16 b6
        have d6 := d5.a b6 e16
        have e26 := b6 _ _ (fun z => nb2 (.inl z)) e25
        clear d5 e25 e5 b6
        tb_start
        refine ⟨fun σ H' => Iv (σ = [some (.ref a), some (.ref p1), some (.ref p2), some (.ref o), some (.ref st), some (.int k), u6, some (.int x6), u8, u9, u10] ∧ Dst A.c_Live A.c_Ready L p1 o st pl pc H' ns5 cs5 ∧ H' p2 = some (.lst (r.map V.int))), ?_, ?_⟩
        · obtain ⟨r6, ks6, hs6, es6, er6, fr6, ep6, rw6, bk6⟩ := d6.row
          obtain ⟨dx6, pn6, mv6, eo6⟩ := d6.liv.ob
          obtain ⟨ts6, ec6, _, _⟩ := d6.liv.chs
          have hnl := d6.len
          have h6 : x6 = 0 ∨ x6 = 1 ∨ x6 = 2 := by omega
          rcases h6 with rfl | rfl | rfl
          all_goals
            tb_start
            intro v7 m7 H7 e17 kv ov nv b7
            have d7 := d6.a b7 e17
            have e27 := b7 _ _ (fun z => nb2 (.inl z)) e26
            tb_start
            intro x8 m8 H8 e18 b8
            have d8 := d7.a b8 e18
            have e28 := b8 _ _ (fun z => nb2 (.inl z)) e27
            have kv8 := kv.but b8 (ov _ _ e16)
            have v8 := d8.liv
            have kx : Kind H8 (.int x8) := .int
            have hkk : ∀ H', Liv A.c_Live A.c_Ready L o pc H' ns5 cs5 → Fr o pc H8 H' → Kind H' v7 ∧ Kind H' (.int x8) := fun H' _ f => ⟨kind_fr kv8 (ov _ _ eo6) (ov _ _ ec6) f, .int⟩
            have f2 : ∀ H', Fr o pc H8 H' → H' p2 = some (.lst (r.map V.int)) := fun H' f => f _ _ o2.1 o2.2 e28
            clear d6 e26 e16 d7 e27 b7 b8 e17 kv
            tb_start
          · refine .inl ⟨.inl rfl, fun p e k => nv p e ⟨k.1, by have := k.2; first | omega | (rw [if_pos (decide_eq_true rfl)]; omega) | (simp; omega)⟩, ⟨x8, rfl⟩, fun H9 v9 f9 => ?_⟩
            tb_start
            exact ⟨rfl, d8.fr v9 f9, f2 _ f9⟩
          · refine .inr (.inl ⟨rfl, fun p e k => nv p e ⟨k.1, by have := k.2; first | omega | (rw [if_pos (decide_eq_true rfl)]; omega) | (simp; omega)⟩, ⟨x8, rfl⟩, fun H9 v9 f9 => ?_⟩)
            tb_start
            exact ⟨rfl, d8.fr v9 f9, f2 _ f9⟩
          · refine .inl ⟨.inr rfl, fun p e k => nv p e ⟨k.1, by have := k.2; first | omega | (rw [if_pos (decide_eq_true rfl)]; omega) | (simp; omega)⟩, ⟨x8, rfl⟩, fun H9 v9 f9 => ?_⟩
            tb_start
            exact ⟨rfl, d8.fr v9 f9, f2 _ f9⟩
        rintro σ H7 ⟨rfl, d7, e27⟩
        clear d6 e26 e16
        obtain ⟨ds7, e17⟩ := d7.draws
        obtain ⟨r7, ks7, hs7, es7, er7, fr7, ep7, rw7, bk7⟩ := d7.row
        obtain ⟨dx7, pn7, mv7, eo7⟩ := d7.liv.ob
        obtain ⟨ts7, ec7, _, _⟩ := d7.liv.chs
        have hnl := d7.len
        tb_start
        intro pw v w m8 H8 e18 ew npw kv kw ovw nw b8
        have d8 := d7.a b8 e18
        have e28 := b8 _ _ (fun z => nb2 (.inl z)) e27
        have v8 := d8.liv
        have hkk : ∀ H', Liv A.c_Live A.c_Ready L o pc H' ns5 cs5 → Fr o pc H8 H' → Kind H' v ∧ Kind H' w := fun H' _ f => ⟨kind_fr kv (ovw _ _ eo7).1 (ovw _ _ ec7).1 f, kind_fr kw (ovw _ _ eo7).2 (ovw _ _ ec7).2 f⟩
        clear d7 e27 e17 b8 es7 er7 ep7 rw7 bk7
        tb_start
        refine .inr (.inr ⟨.inl rfl, nw, fun H9 v9 f9 => ?_⟩)
        have d9 := d8.fr v9 f9
        have e29 := f9 _ _ o2.1 o2.2 e28
        have kv9 := (hkk _ v9 f9).1
        have kw9 := (hkk _ v9 f9).2
        have hkk9 : ∀ H', Liv A.c_Live A.c_Ready L o pc H' ns5 cs5 → Fr o pc H9 H' → Kind H' v ∧ Kind H' w := fun H' v' f => hkk _ v' (f9.trans f)
        clear d8 e28 v8 hkk kv kw f9 ew e18
        tb_start
        refine .inr (.inr ⟨.inr rfl, nw, fun HA vA fA => ?_⟩)
        have dA := d9.fr vA fA
        have e2A := fA _ _ o2.1 o2.2 e29
        clear d9 e29 v9 hkk9 kv9 kw9 fA
        obtain ⟨rA, ksA, hsA, esA, erA, frA, epA, rwA, bkA⟩ := dA.row
        obtain ⟨dxA, pnA, mvA, eoA⟩ := dA.liv.ob
        tb_start
        intro pB HB eB sB nB
        have dB := dA.same sB
        have e2B := sB _ _ e2A
        have esB := sB _ _ esA
        have erB := sB _ _ erA
        have vB := dB.liv
        have hrc := frA _ (.inr (.inr rfl))
        clear dA e2A esA erA vA eoA epA rwA bkA
        tb_start
        intro HC vC fC
        have dC := dB.fr vC fC
        have e2C := fC _ _ o2.1 o2.2 e2B
        tb_start
        exact ⟨20 - (k + 1).toNat, by omega, _, _, _, _, _, _, _, _, rfl, dC, hu5, e2C, by omega, by omega, by omega, rfl⟩
end
end Ur
namespace Ur
open PySem L2
theorem all_mk {l : PySem.W.OpenLaw} {w : World} {K : PySem.W.Frag} {h : Heap} {mg : Str → Option Value} {fa : Addr} {c_Live c_NoPlace c_Ready c_NoWindow c_RowError c_NoCommand c_NoNeeds c_NoRow c_NoTable : Addr} (X : K.In h) (G : h.Ns mainGlobals mg) (hfa : mg "law" = some (.ref fa))
    {f_Live___init__ : Addr} {oc_Live___init__ kV_Live___init__ dc_Live___init__ pm_Live___init__ cd_Live___init__ ct_Live___init__ : Value} {od_Live___init__ an_Live___init__ : Option Addr} {sl_Live___init__ : Array (Option Value)}
    {f_Live_row : Addr} {oc_Live_row kV_Live_row dc_Live_row pm_Live_row cd_Live_row ct_Live_row : Value} {od_Live_row an_Live_row : Option Addr} {sl_Live_row : Array (Option Value)}
    {f_Live_laid : Addr} {oc_Live_laid kV_Live_laid dc_Live_laid pm_Live_laid cd_Live_laid ct_Live_laid : Value} {od_Live_laid an_Live_laid : Option Addr} {sl_Live_laid : Array (Option Value)}
    {f_Live_undo : Addr} {oc_Live_undo kV_Live_undo dc_Live_undo pm_Live_undo cd_Live_undo ct_Live_undo : Value} {od_Live_undo an_Live_undo : Option Addr} {sl_Live_undo : Array (Option Value)}
    {f__law_number : Addr} {oc__law_number kV__law_number dc__law_number pm__law_number cd__law_number ct__law_number : Value} {od__law_number an__law_number : Option Addr} {sl__law_number : Array (Option Value)}
    {f__law_take : Addr} {oc__law_take kV__law_take dc__law_take pm__law_take cd__law_take ct__law_take : Value} {od__law_take an__law_take : Option Addr} {sl__law_take : Array (Option Value)}
    {f__law_any : Addr} {oc__law_any kV__law_any dc__law_any pm__law_any cd__law_any ct__law_any : Value} {od__law_any an__law_any : Option Addr} {sl__law_any : Array (Option Value)}
    {f__law_deep : Addr} {oc__law_deep kV__law_deep dc__law_deep pm__law_deep cd__law_deep ct__law_deep : Value} {od__law_deep an__law_deep : Option Addr} {sl__law_deep : Array (Option Value)}
    {f__law_bad_place : Addr} {oc__law_bad_place kV__law_bad_place dc__law_bad_place pm__law_bad_place cd__law_bad_place ct__law_bad_place : Value} {od__law_bad_place an__law_bad_place : Option Addr} {sl__law_bad_place : Array (Option Value)}
    {f__law_bad_window : Addr} {oc__law_bad_window kV__law_bad_window dc__law_bad_window pm__law_bad_window cd__law_bad_window ct__law_bad_window : Value} {od__law_bad_window an__law_bad_window : Option Addr} {sl__law_bad_window : Array (Option Value)}
    {f_Live_need_place : Addr} {oc_Live_need_place kV_Live_need_place dc_Live_need_place pm_Live_need_place cd_Live_need_place ct_Live_need_place : Value} {od_Live_need_place an_Live_need_place : Option Addr} {sl_Live_need_place : Array (Option Value)}
    {f_Live_noted : Addr} {oc_Live_noted kV_Live_noted dc_Live_noted pm_Live_noted cd_Live_noted ct_Live_noted : Value} {od_Live_noted an_Live_noted : Option Addr} {sl_Live_noted : Array (Option Value)}
    {f_Live_change : Addr} {oc_Live_change kV_Live_change dc_Live_change pm_Live_change cd_Live_change ct_Live_change : Value} {od_Live_change an_Live_change : Option Addr} {sl_Live_change : Array (Option Value)}
    {f_last_places : Addr} {oc_last_places kV_last_places dc_last_places pm_last_places cd_last_places ct_last_places : Value} {od_last_places an_last_places : Option Addr} {sl_last_places : Array (Option Value)}
    {f_next_places : Addr} {oc_next_places kV_next_places dc_next_places pm_next_places cd_next_places ct_next_places : Value} {od_next_places an_next_places : Option Addr} {sl_next_places : Array (Option Value)}
    {f_Ready___init__ : Addr} {oc_Ready___init__ kV_Ready___init__ dc_Ready___init__ pm_Ready___init__ cd_Ready___init__ ct_Ready___init__ : Value} {od_Ready___init__ an_Ready___init__ : Option Addr} {sl_Ready___init__ : Array (Option Value)}
    {f_Live_ready : Addr} {oc_Live_ready kV_Live_ready dc_Live_ready pm_Live_ready cd_Live_ready ct_Live_ready : Value} {od_Live_ready an_Live_ready : Option Addr} {sl_Live_ready : Array (Option Value)}
    {f_is_whole : Addr} {oc_is_whole kV_is_whole dc_is_whole pm_is_whole cd_is_whole ct_is_whole : Value} {od_is_whole an_is_whole : Option Addr} {sl_is_whole : Array (Option Value)}
    {f_Ready_need_place : Addr} {oc_Ready_need_place kV_Ready_need_place dc_Ready_need_place pm_Ready_need_place cd_Ready_need_place ct_Ready_need_place : Value} {od_Ready_need_place an_Ready_need_place : Option Addr} {sl_Ready_need_place : Array (Option Value)}
    {f_Ready_need_window : Addr} {oc_Ready_need_window kV_Ready_need_window dc_Ready_need_window pm_Ready_need_window cd_Ready_need_window ct_Ready_need_window : Value} {od_Ready_need_window an_Ready_need_window : Option Addr} {sl_Ready_need_window : Array (Option Value)}
    {f_Ready_firsts : Addr} {oc_Ready_firsts kV_Ready_firsts dc_Ready_firsts pm_Ready_firsts cd_Ready_firsts ct_Ready_firsts : Value} {od_Ready_firsts an_Ready_firsts : Option Addr} {sl_Ready_firsts : Array (Option Value)}
    {f_Live_firsts : Addr} {oc_Live_firsts kV_Live_firsts dc_Live_firsts pm_Live_firsts cd_Live_firsts ct_Live_firsts : Value} {od_Live_firsts an_Live_firsts : Option Addr} {sl_Live_firsts : Array (Option Value)}
    {f_Live_put : Addr} {oc_Live_put kV_Live_put dc_Live_put pm_Live_put cd_Live_put ct_Live_put : Value} {od_Live_put an_Live_put : Option Addr} {sl_Live_put : Array (Option Value)}
    {f_Live_take : Addr} {oc_Live_take kV_Live_take dc_Live_take pm_Live_take cd_Live_take ct_Live_take : Value} {od_Live_take an_Live_take : Option Addr} {sl_Live_take : Array (Option Value)}
    {f_Ready_unlike : Addr} {oc_Ready_unlike kV_Ready_unlike dc_Ready_unlike pm_Ready_unlike cd_Ready_unlike ct_Ready_unlike : Value} {od_Ready_unlike an_Ready_unlike : Option Addr} {sl_Ready_unlike : Array (Option Value)}
    {f_Live_unlike : Addr} {oc_Live_unlike kV_Live_unlike dc_Live_unlike pm_Live_unlike cd_Live_unlike ct_Live_unlike : Value} {od_Live_unlike an_Live_unlike : Option Addr} {sl_Live_unlike : Array (Option Value)}
    {f__law_caught : Addr} {oc__law_caught kV__law_caught dc__law_caught pm__law_caught cd__law_caught ct__law_caught : Value} {od__law_caught an__law_caught : Option Addr} {sl__law_caught : Array (Option Value)}
    {f__law_whole : Addr} {oc__law_whole kV__law_whole dc__law_whole pm__law_whole cd__law_whole ct__law_whole : Value} {od__law_whole an__law_whole : Option Addr} {sl__law_whole : Array (Option Value)}
    {f__law_deed : Addr} {oc__law_deed kV__law_deed dc__law_deed pm__law_deed cd__law_deed ct__law_deed : Value} {od__law_deed an__law_deed : Option Addr} {sl__law_deed : Array (Option Value)}
    {f__law_draws : Addr} {oc__law_draws kV__law_draws dc__law_draws pm__law_draws cd__law_draws ct__law_draws : Value} {od__law_draws an__law_draws : Option Addr} {sl__law_draws : Array (Option Value)}
    {f__law_row : Addr} {oc__law_row kV__law_row dc__law_row pm__law_row cd__law_row ct__law_row : Value} {od__law_row an__law_row : Option Addr} {sl__law_row : Array (Option Value)}
    {f__law_firsts : Addr} {oc__law_firsts kV__law_firsts dc__law_firsts pm__law_firsts cd__law_firsts ct__law_firsts : Value} {od__law_firsts an__law_firsts : Option Addr} {sl__law_firsts : Array (Option Value)}
    {f__law_window_right : Addr} {oc__law_window_right kV__law_window_right dc__law_window_right pm__law_window_right cd__law_window_right ct__law_window_right : Value} {od__law_window_right an__law_window_right : Option Addr} {sl__law_window_right : Array (Option Value)}
    {f_law : Addr} {oc_law kV_law dc_law pm_law cd_law ct_law : Value} {od_law an_law : Option Addr} {sl_law : Array (Option Value)}
    (aC_Live : PySem.W.nsIn K mainGlobals "Live" = some (some (.ref c_Live)))
    (pg_Live : PySem.W.plainGet K c_Live Str.empty = true)
    (hd_Live : PySem.W.hasDictIn K c_Live = true)
    (po_Live : PySem.W.plainOver K c_Live = true)
    (sa_Live : PySem.W.findIn K (.ref c_Live) "__setattr__" = some (some (.builtin "object.__setattr__")))
    (mk_Live : PySem.W.makesIn K c_Live = true)
    (kc_Live : PySem.W.keepIn K (.ref c_Live) = true)
    (n_Live_numbers : PySem.W.findIn K (.ref c_Live) "numbers" = some none)
    (n_Live_changes : PySem.W.findIn K (.ref c_Live) "changes" = some none)
    (n_Live_made : PySem.W.findIn K (.ref c_Live) "made" = some none)
    (aC_NoPlace : PySem.W.nsIn K mainGlobals "NoPlace" = some (some (.ref c_NoPlace)))
    (aC_Ready : PySem.W.nsIn K mainGlobals "Ready" = some (some (.ref c_Ready)))
    (pg_Ready : PySem.W.plainGet K c_Ready Str.empty = true)
    (hd_Ready : PySem.W.hasDictIn K c_Ready = true)
    (po_Ready : PySem.W.plainOver K c_Ready = true)
    (sa_Ready : PySem.W.findIn K (.ref c_Ready) "__setattr__" = some (some (.builtin "object.__setattr__")))
    (mk_Ready : PySem.W.makesIn K c_Ready = true)
    (kc_Ready : PySem.W.keepIn K (.ref c_Ready) = true)
    (n_Ready_many : PySem.W.findIn K (.ref c_Ready) "many" = some none)
    (n_Ready_lasts : PySem.W.findIn K (.ref c_Ready) "lasts" = some none)
    (n_Ready_nexts : PySem.W.findIn K (.ref c_Ready) "nexts" = some none)
    (aC_NoWindow : PySem.W.nsIn K mainGlobals "NoWindow" = some (some (.ref c_NoWindow)))
    (aC_RowError : PySem.W.nsIn K mainGlobals "RowError" = some (some (.ref c_RowError)))
    (aC_NoCommand : PySem.W.nsIn K mainGlobals "NoCommand" = some (some (.ref c_NoCommand)))
    (aC_NoNeeds : PySem.W.nsIn K mainGlobals "NoNeeds" = some (some (.ref c_NoNeeds)))
    (aC_NoRow : PySem.W.nsIn K mainGlobals "NoRow" = some (some (.ref c_NoRow)))
    (aC_NoTable : PySem.W.nsIn K mainGlobals "NoTable" = some (some (.ref c_NoTable)))
    (a_Live___init__ : PySem.W.findIn K (.ref c_Live) "__init__" = some (some (.ref f_Live___init__)))
    (i_Live___init__ : PySem.W.isFn K (.ref f_Live___init__) = true)
    (l_Live___init__ : K.lookup f_Live___init__ = some ⟨oc_Live___init__, od_Live___init__, .func (PySem.W.fnOf "__init__" "Live.__init__" (defArgs s_Live___init__) (defBody s_Live___init__) (defScope s_Live___init__) .none kV_Live___init__ dc_Live___init__ pm_Live___init__ an_Live___init__ cd_Live___init__ ct_Live___init__), sl_Live___init__⟩)
    (q_Live___init__ : PySem.W.codeIn K cd_Live___init__ "Live.__init__" = true)
    (k_Live___init__ : PySem.W.keepIn K (.ref f_Live___init__) = true)
    (a_Live_row : PySem.W.findIn K (.ref c_Live) "row" = some (some (.ref f_Live_row)))
    (i_Live_row : PySem.W.isFn K (.ref f_Live_row) = true)
    (l_Live_row : K.lookup f_Live_row = some ⟨oc_Live_row, od_Live_row, .func (PySem.W.fnOf "row" "Live.row" (defArgs s_Live_row) (defBody s_Live_row) (defScope s_Live_row) .none kV_Live_row dc_Live_row pm_Live_row an_Live_row cd_Live_row ct_Live_row), sl_Live_row⟩)
    (q_Live_row : PySem.W.codeIn K cd_Live_row "Live.row" = true)
    (k_Live_row : PySem.W.keepIn K (.ref f_Live_row) = true)
    (a_Live_laid : PySem.W.findIn K (.ref c_Live) "laid" = some (some (.ref f_Live_laid)))
    (i_Live_laid : PySem.W.isFn K (.ref f_Live_laid) = true)
    (l_Live_laid : K.lookup f_Live_laid = some ⟨oc_Live_laid, od_Live_laid, .func (PySem.W.fnOf "laid" "Live.laid" (defArgs s_Live_laid) (defBody s_Live_laid) (defScope s_Live_laid) .none kV_Live_laid dc_Live_laid pm_Live_laid an_Live_laid cd_Live_laid ct_Live_laid), sl_Live_laid⟩)
    (q_Live_laid : PySem.W.codeIn K cd_Live_laid "Live.laid" = true)
    (k_Live_laid : PySem.W.keepIn K (.ref f_Live_laid) = true)
    (a_Live_undo : PySem.W.findIn K (.ref c_Live) "undo" = some (some (.ref f_Live_undo)))
    (i_Live_undo : PySem.W.isFn K (.ref f_Live_undo) = true)
    (l_Live_undo : K.lookup f_Live_undo = some ⟨oc_Live_undo, od_Live_undo, .func (PySem.W.fnOf "undo" "Live.undo" (defArgs s_Live_undo) (defBody s_Live_undo) (defScope s_Live_undo) .none kV_Live_undo dc_Live_undo pm_Live_undo an_Live_undo cd_Live_undo ct_Live_undo), sl_Live_undo⟩)
    (q_Live_undo : PySem.W.codeIn K cd_Live_undo "Live.undo" = true)
    (k_Live_undo : PySem.W.keepIn K (.ref f_Live_undo) = true)
    (a__law_number : PySem.W.nsIn K mainGlobals "_law_number" = some (some (.ref f__law_number)))
    (l__law_number : K.lookup f__law_number = some ⟨oc__law_number, od__law_number, .func (PySem.W.fnOf "_law_number" "_law_number" (defArgs s__law_number) (defBody s__law_number) (defScope s__law_number) .none kV__law_number dc__law_number pm__law_number an__law_number cd__law_number ct__law_number), sl__law_number⟩)
    (q__law_number : PySem.W.codeIn K cd__law_number "_law_number" = true)
    (k__law_number : PySem.W.keepIn K (.ref f__law_number) = true)
    (a__law_take : PySem.W.nsIn K mainGlobals "_law_take" = some (some (.ref f__law_take)))
    (l__law_take : K.lookup f__law_take = some ⟨oc__law_take, od__law_take, .func (PySem.W.fnOf "_law_take" "_law_take" (defArgs s__law_take) (defBody s__law_take) (defScope s__law_take) .none kV__law_take dc__law_take pm__law_take an__law_take cd__law_take ct__law_take), sl__law_take⟩)
    (q__law_take : PySem.W.codeIn K cd__law_take "_law_take" = true)
    (k__law_take : PySem.W.keepIn K (.ref f__law_take) = true)
    (a__law_any : PySem.W.nsIn K mainGlobals "_law_any" = some (some (.ref f__law_any)))
    (l__law_any : K.lookup f__law_any = some ⟨oc__law_any, od__law_any, .func (PySem.W.fnOf "_law_any" "_law_any" (defArgs s__law_any) (defBody s__law_any) (defScope s__law_any) .none kV__law_any dc__law_any pm__law_any an__law_any cd__law_any ct__law_any), sl__law_any⟩)
    (q__law_any : PySem.W.codeIn K cd__law_any "_law_any" = true)
    (k__law_any : PySem.W.keepIn K (.ref f__law_any) = true)
    (a__law_deep : PySem.W.nsIn K mainGlobals "_law_deep" = some (some (.ref f__law_deep)))
    (l__law_deep : K.lookup f__law_deep = some ⟨oc__law_deep, od__law_deep, .func (PySem.W.fnOf "_law_deep" "_law_deep" (defArgs s__law_deep) (defBody s__law_deep) (defScope s__law_deep) .none kV__law_deep dc__law_deep pm__law_deep an__law_deep cd__law_deep ct__law_deep), sl__law_deep⟩)
    (q__law_deep : PySem.W.codeIn K cd__law_deep "_law_deep" = true)
    (k__law_deep : PySem.W.keepIn K (.ref f__law_deep) = true)
    (a__law_bad_place : PySem.W.nsIn K mainGlobals "_law_bad_place" = some (some (.ref f__law_bad_place)))
    (l__law_bad_place : K.lookup f__law_bad_place = some ⟨oc__law_bad_place, od__law_bad_place, .func (PySem.W.fnOf "_law_bad_place" "_law_bad_place" (defArgs s__law_bad_place) (defBody s__law_bad_place) (defScope s__law_bad_place) .none kV__law_bad_place dc__law_bad_place pm__law_bad_place an__law_bad_place cd__law_bad_place ct__law_bad_place), sl__law_bad_place⟩)
    (q__law_bad_place : PySem.W.codeIn K cd__law_bad_place "_law_bad_place" = true)
    (k__law_bad_place : PySem.W.keepIn K (.ref f__law_bad_place) = true)
    (a__law_bad_window : PySem.W.nsIn K mainGlobals "_law_bad_window" = some (some (.ref f__law_bad_window)))
    (l__law_bad_window : K.lookup f__law_bad_window = some ⟨oc__law_bad_window, od__law_bad_window, .func (PySem.W.fnOf "_law_bad_window" "_law_bad_window" (defArgs s__law_bad_window) (defBody s__law_bad_window) (defScope s__law_bad_window) .none kV__law_bad_window dc__law_bad_window pm__law_bad_window an__law_bad_window cd__law_bad_window ct__law_bad_window), sl__law_bad_window⟩)
    (q__law_bad_window : PySem.W.codeIn K cd__law_bad_window "_law_bad_window" = true)
    (k__law_bad_window : PySem.W.keepIn K (.ref f__law_bad_window) = true)
    (a_Live_need_place : PySem.W.findIn K (.ref c_Live) "need_place" = some (some (.ref f_Live_need_place)))
    (i_Live_need_place : PySem.W.isFn K (.ref f_Live_need_place) = true)
    (l_Live_need_place : K.lookup f_Live_need_place = some ⟨oc_Live_need_place, od_Live_need_place, .func (PySem.W.fnOf "need_place" "Live.need_place" (defArgs s_Live_need_place) (defBody s_Live_need_place) (defScope s_Live_need_place) .none kV_Live_need_place dc_Live_need_place pm_Live_need_place an_Live_need_place cd_Live_need_place ct_Live_need_place), sl_Live_need_place⟩)
    (q_Live_need_place : PySem.W.codeIn K cd_Live_need_place "Live.need_place" = true)
    (k_Live_need_place : PySem.W.keepIn K (.ref f_Live_need_place) = true)
    (a_Live_noted : PySem.W.findIn K (.ref c_Live) "noted" = some (some (.ref f_Live_noted)))
    (i_Live_noted : PySem.W.isFn K (.ref f_Live_noted) = true)
    (l_Live_noted : K.lookup f_Live_noted = some ⟨oc_Live_noted, od_Live_noted, .func (PySem.W.fnOf "noted" "Live.noted" (defArgs s_Live_noted) (defBody s_Live_noted) (defScope s_Live_noted) .none kV_Live_noted dc_Live_noted pm_Live_noted an_Live_noted cd_Live_noted ct_Live_noted), sl_Live_noted⟩)
    (q_Live_noted : PySem.W.codeIn K cd_Live_noted "Live.noted" = true)
    (k_Live_noted : PySem.W.keepIn K (.ref f_Live_noted) = true)
    (a_Live_change : PySem.W.findIn K (.ref c_Live) "change" = some (some (.ref f_Live_change)))
    (i_Live_change : PySem.W.isFn K (.ref f_Live_change) = true)
    (l_Live_change : K.lookup f_Live_change = some ⟨oc_Live_change, od_Live_change, .func (PySem.W.fnOf "change" "Live.change" (defArgs s_Live_change) (defBody s_Live_change) (defScope s_Live_change) .none kV_Live_change dc_Live_change pm_Live_change an_Live_change cd_Live_change ct_Live_change), sl_Live_change⟩)
    (q_Live_change : PySem.W.codeIn K cd_Live_change "Live.change" = true)
    (k_Live_change : PySem.W.keepIn K (.ref f_Live_change) = true)
    (a_last_places : PySem.W.nsIn K mainGlobals "last_places" = some (some (.ref f_last_places)))
    (l_last_places : K.lookup f_last_places = some ⟨oc_last_places, od_last_places, .func (PySem.W.fnOf "last_places" "last_places" (defArgs s_last_places) (defBody s_last_places) (defScope s_last_places) .none kV_last_places dc_last_places pm_last_places an_last_places cd_last_places ct_last_places), sl_last_places⟩)
    (q_last_places : PySem.W.codeIn K cd_last_places "last_places" = true)
    (k_last_places : PySem.W.keepIn K (.ref f_last_places) = true)
    (a_next_places : PySem.W.nsIn K mainGlobals "next_places" = some (some (.ref f_next_places)))
    (l_next_places : K.lookup f_next_places = some ⟨oc_next_places, od_next_places, .func (PySem.W.fnOf "next_places" "next_places" (defArgs s_next_places) (defBody s_next_places) (defScope s_next_places) .none kV_next_places dc_next_places pm_next_places an_next_places cd_next_places ct_next_places), sl_next_places⟩)
    (q_next_places : PySem.W.codeIn K cd_next_places "next_places" = true)
    (k_next_places : PySem.W.keepIn K (.ref f_next_places) = true)
    (a_Ready___init__ : PySem.W.findIn K (.ref c_Ready) "__init__" = some (some (.ref f_Ready___init__)))
    (i_Ready___init__ : PySem.W.isFn K (.ref f_Ready___init__) = true)
    (l_Ready___init__ : K.lookup f_Ready___init__ = some ⟨oc_Ready___init__, od_Ready___init__, .func (PySem.W.fnOf "__init__" "Ready.__init__" (defArgs s_Ready___init__) (defBody s_Ready___init__) (defScope s_Ready___init__) .none kV_Ready___init__ dc_Ready___init__ pm_Ready___init__ an_Ready___init__ cd_Ready___init__ ct_Ready___init__), sl_Ready___init__⟩)
    (q_Ready___init__ : PySem.W.codeIn K cd_Ready___init__ "Ready.__init__" = true)
    (k_Ready___init__ : PySem.W.keepIn K (.ref f_Ready___init__) = true)
    (a_Live_ready : PySem.W.findIn K (.ref c_Live) "ready" = some (some (.ref f_Live_ready)))
    (i_Live_ready : PySem.W.isFn K (.ref f_Live_ready) = true)
    (l_Live_ready : K.lookup f_Live_ready = some ⟨oc_Live_ready, od_Live_ready, .func (PySem.W.fnOf "ready" "Live.ready" (defArgs s_Live_ready) (defBody s_Live_ready) (defScope s_Live_ready) .none kV_Live_ready dc_Live_ready pm_Live_ready an_Live_ready cd_Live_ready ct_Live_ready), sl_Live_ready⟩)
    (q_Live_ready : PySem.W.codeIn K cd_Live_ready "Live.ready" = true)
    (k_Live_ready : PySem.W.keepIn K (.ref f_Live_ready) = true)
    (a_is_whole : PySem.W.nsIn K mainGlobals "is_whole" = some (some (.ref f_is_whole)))
    (l_is_whole : K.lookup f_is_whole = some ⟨oc_is_whole, od_is_whole, .func (PySem.W.fnOf "is_whole" "is_whole" (defArgs s_is_whole) (defBody s_is_whole) (defScope s_is_whole) .none kV_is_whole dc_is_whole pm_is_whole an_is_whole cd_is_whole ct_is_whole), sl_is_whole⟩)
    (q_is_whole : PySem.W.codeIn K cd_is_whole "is_whole" = true)
    (k_is_whole : PySem.W.keepIn K (.ref f_is_whole) = true)
    (a_Ready_need_place : PySem.W.findIn K (.ref c_Ready) "need_place" = some (some (.ref f_Ready_need_place)))
    (i_Ready_need_place : PySem.W.isFn K (.ref f_Ready_need_place) = true)
    (l_Ready_need_place : K.lookup f_Ready_need_place = some ⟨oc_Ready_need_place, od_Ready_need_place, .func (PySem.W.fnOf "need_place" "Ready.need_place" (defArgs s_Ready_need_place) (defBody s_Ready_need_place) (defScope s_Ready_need_place) .none kV_Ready_need_place dc_Ready_need_place pm_Ready_need_place an_Ready_need_place cd_Ready_need_place ct_Ready_need_place), sl_Ready_need_place⟩)
    (q_Ready_need_place : PySem.W.codeIn K cd_Ready_need_place "Ready.need_place" = true)
    (k_Ready_need_place : PySem.W.keepIn K (.ref f_Ready_need_place) = true)
    (a_Ready_need_window : PySem.W.findIn K (.ref c_Ready) "need_window" = some (some (.ref f_Ready_need_window)))
    (i_Ready_need_window : PySem.W.isFn K (.ref f_Ready_need_window) = true)
    (l_Ready_need_window : K.lookup f_Ready_need_window = some ⟨oc_Ready_need_window, od_Ready_need_window, .func (PySem.W.fnOf "need_window" "Ready.need_window" (defArgs s_Ready_need_window) (defBody s_Ready_need_window) (defScope s_Ready_need_window) .none kV_Ready_need_window dc_Ready_need_window pm_Ready_need_window an_Ready_need_window cd_Ready_need_window ct_Ready_need_window), sl_Ready_need_window⟩)
    (q_Ready_need_window : PySem.W.codeIn K cd_Ready_need_window "Ready.need_window" = true)
    (k_Ready_need_window : PySem.W.keepIn K (.ref f_Ready_need_window) = true)
    (a_Ready_firsts : PySem.W.findIn K (.ref c_Ready) "firsts" = some (some (.ref f_Ready_firsts)))
    (i_Ready_firsts : PySem.W.isFn K (.ref f_Ready_firsts) = true)
    (l_Ready_firsts : K.lookup f_Ready_firsts = some ⟨oc_Ready_firsts, od_Ready_firsts, .func (PySem.W.fnOf "firsts" "Ready.firsts" (defArgs s_Ready_firsts) (defBody s_Ready_firsts) (defScope s_Ready_firsts) .none kV_Ready_firsts dc_Ready_firsts pm_Ready_firsts an_Ready_firsts cd_Ready_firsts ct_Ready_firsts), sl_Ready_firsts⟩)
    (q_Ready_firsts : PySem.W.codeIn K cd_Ready_firsts "Ready.firsts" = true)
    (k_Ready_firsts : PySem.W.keepIn K (.ref f_Ready_firsts) = true)
    (a_Live_firsts : PySem.W.findIn K (.ref c_Live) "firsts" = some (some (.ref f_Live_firsts)))
    (i_Live_firsts : PySem.W.isFn K (.ref f_Live_firsts) = true)
    (l_Live_firsts : K.lookup f_Live_firsts = some ⟨oc_Live_firsts, od_Live_firsts, .func (PySem.W.fnOf "firsts" "Live.firsts" (defArgs s_Live_firsts) (defBody s_Live_firsts) (defScope s_Live_firsts) .none kV_Live_firsts dc_Live_firsts pm_Live_firsts an_Live_firsts cd_Live_firsts ct_Live_firsts), sl_Live_firsts⟩)
    (q_Live_firsts : PySem.W.codeIn K cd_Live_firsts "Live.firsts" = true)
    (k_Live_firsts : PySem.W.keepIn K (.ref f_Live_firsts) = true)
    (a_Live_put : PySem.W.findIn K (.ref c_Live) "put" = some (some (.ref f_Live_put)))
    (i_Live_put : PySem.W.isFn K (.ref f_Live_put) = true)
    (l_Live_put : K.lookup f_Live_put = some ⟨oc_Live_put, od_Live_put, .func (PySem.W.fnOf "put" "Live.put" (defArgs s_Live_put) (defBody s_Live_put) (defScope s_Live_put) .none kV_Live_put dc_Live_put pm_Live_put an_Live_put cd_Live_put ct_Live_put), sl_Live_put⟩)
    (q_Live_put : PySem.W.codeIn K cd_Live_put "Live.put" = true)
    (k_Live_put : PySem.W.keepIn K (.ref f_Live_put) = true)
    (a_Live_take : PySem.W.findIn K (.ref c_Live) "take" = some (some (.ref f_Live_take)))
    (i_Live_take : PySem.W.isFn K (.ref f_Live_take) = true)
    (l_Live_take : K.lookup f_Live_take = some ⟨oc_Live_take, od_Live_take, .func (PySem.W.fnOf "take" "Live.take" (defArgs s_Live_take) (defBody s_Live_take) (defScope s_Live_take) .none kV_Live_take dc_Live_take pm_Live_take an_Live_take cd_Live_take ct_Live_take), sl_Live_take⟩)
    (q_Live_take : PySem.W.codeIn K cd_Live_take "Live.take" = true)
    (k_Live_take : PySem.W.keepIn K (.ref f_Live_take) = true)
    (a_Ready_unlike : PySem.W.findIn K (.ref c_Ready) "unlike" = some (some (.ref f_Ready_unlike)))
    (i_Ready_unlike : PySem.W.isFn K (.ref f_Ready_unlike) = true)
    (l_Ready_unlike : K.lookup f_Ready_unlike = some ⟨oc_Ready_unlike, od_Ready_unlike, .func (PySem.W.fnOf "unlike" "Ready.unlike" (defArgs s_Ready_unlike) (defBody s_Ready_unlike) (defScope s_Ready_unlike) .none kV_Ready_unlike dc_Ready_unlike pm_Ready_unlike an_Ready_unlike cd_Ready_unlike ct_Ready_unlike), sl_Ready_unlike⟩)
    (q_Ready_unlike : PySem.W.codeIn K cd_Ready_unlike "Ready.unlike" = true)
    (k_Ready_unlike : PySem.W.keepIn K (.ref f_Ready_unlike) = true)
    (a_Live_unlike : PySem.W.findIn K (.ref c_Live) "unlike" = some (some (.ref f_Live_unlike)))
    (i_Live_unlike : PySem.W.isFn K (.ref f_Live_unlike) = true)
    (l_Live_unlike : K.lookup f_Live_unlike = some ⟨oc_Live_unlike, od_Live_unlike, .func (PySem.W.fnOf "unlike" "Live.unlike" (defArgs s_Live_unlike) (defBody s_Live_unlike) (defScope s_Live_unlike) .none kV_Live_unlike dc_Live_unlike pm_Live_unlike an_Live_unlike cd_Live_unlike ct_Live_unlike), sl_Live_unlike⟩)
    (q_Live_unlike : PySem.W.codeIn K cd_Live_unlike "Live.unlike" = true)
    (k_Live_unlike : PySem.W.keepIn K (.ref f_Live_unlike) = true)
    (a__law_caught : PySem.W.nsIn K mainGlobals "_law_caught" = some (some (.ref f__law_caught)))
    (l__law_caught : K.lookup f__law_caught = some ⟨oc__law_caught, od__law_caught, .func (PySem.W.fnOf "_law_caught" "_law_caught" (defArgs s__law_caught) (defBody s__law_caught) (defScope s__law_caught) .none kV__law_caught dc__law_caught pm__law_caught an__law_caught cd__law_caught ct__law_caught), sl__law_caught⟩)
    (q__law_caught : PySem.W.codeIn K cd__law_caught "_law_caught" = true)
    (k__law_caught : PySem.W.keepIn K (.ref f__law_caught) = true)
    (a__law_whole : PySem.W.nsIn K mainGlobals "_law_whole" = some (some (.ref f__law_whole)))
    (l__law_whole : K.lookup f__law_whole = some ⟨oc__law_whole, od__law_whole, .func (PySem.W.fnOf "_law_whole" "_law_whole" (defArgs s__law_whole) (defBody s__law_whole) (defScope s__law_whole) .none kV__law_whole dc__law_whole pm__law_whole an__law_whole cd__law_whole ct__law_whole), sl__law_whole⟩)
    (q__law_whole : PySem.W.codeIn K cd__law_whole "_law_whole" = true)
    (k__law_whole : PySem.W.keepIn K (.ref f__law_whole) = true)
    (a__law_deed : PySem.W.nsIn K mainGlobals "_law_deed" = some (some (.ref f__law_deed)))
    (l__law_deed : K.lookup f__law_deed = some ⟨oc__law_deed, od__law_deed, .func (PySem.W.fnOf "_law_deed" "_law_deed" (defArgs s__law_deed) (defBody s__law_deed) (defScope s__law_deed) .none kV__law_deed dc__law_deed pm__law_deed an__law_deed cd__law_deed ct__law_deed), sl__law_deed⟩)
    (q__law_deed : PySem.W.codeIn K cd__law_deed "_law_deed" = true)
    (k__law_deed : PySem.W.keepIn K (.ref f__law_deed) = true)
    (a__law_draws : PySem.W.nsIn K mainGlobals "_law_draws" = some (some (.ref f__law_draws)))
    (l__law_draws : K.lookup f__law_draws = some ⟨oc__law_draws, od__law_draws, .func (PySem.W.fnOf "_law_draws" "_law_draws" (defArgs s__law_draws) (defBody s__law_draws) (defScope s__law_draws) .none kV__law_draws dc__law_draws pm__law_draws an__law_draws cd__law_draws ct__law_draws), sl__law_draws⟩)
    (q__law_draws : PySem.W.codeIn K cd__law_draws "_law_draws" = true)
    (k__law_draws : PySem.W.keepIn K (.ref f__law_draws) = true)
    (a__law_row : PySem.W.nsIn K mainGlobals "_law_row" = some (some (.ref f__law_row)))
    (l__law_row : K.lookup f__law_row = some ⟨oc__law_row, od__law_row, .func (PySem.W.fnOf "_law_row" "_law_row" (defArgs s__law_row) (defBody s__law_row) (defScope s__law_row) .none kV__law_row dc__law_row pm__law_row an__law_row cd__law_row ct__law_row), sl__law_row⟩)
    (q__law_row : PySem.W.codeIn K cd__law_row "_law_row" = true)
    (k__law_row : PySem.W.keepIn K (.ref f__law_row) = true)
    (a__law_firsts : PySem.W.nsIn K mainGlobals "_law_firsts" = some (some (.ref f__law_firsts)))
    (l__law_firsts : K.lookup f__law_firsts = some ⟨oc__law_firsts, od__law_firsts, .func (PySem.W.fnOf "_law_firsts" "_law_firsts" (defArgs s__law_firsts) (defBody s__law_firsts) (defScope s__law_firsts) .none kV__law_firsts dc__law_firsts pm__law_firsts an__law_firsts cd__law_firsts ct__law_firsts), sl__law_firsts⟩)
    (q__law_firsts : PySem.W.codeIn K cd__law_firsts "_law_firsts" = true)
    (k__law_firsts : PySem.W.keepIn K (.ref f__law_firsts) = true)
    (a__law_window_right : PySem.W.nsIn K mainGlobals "_law_window_right" = some (some (.ref f__law_window_right)))
    (l__law_window_right : K.lookup f__law_window_right = some ⟨oc__law_window_right, od__law_window_right, .func (PySem.W.fnOf "_law_window_right" "_law_window_right" (defArgs s__law_window_right) (defBody s__law_window_right) (defScope s__law_window_right) .none kV__law_window_right dc__law_window_right pm__law_window_right an__law_window_right cd__law_window_right ct__law_window_right), sl__law_window_right⟩)
    (q__law_window_right : PySem.W.codeIn K cd__law_window_right "_law_window_right" = true)
    (k__law_window_right : PySem.W.keepIn K (.ref f__law_window_right) = true)
    (a_law : PySem.W.nsIn K mainGlobals "law" = some (some (.ref f_law)))
    (l_law : K.lookup f_law = some ⟨oc_law, od_law, .func (PySem.W.fnOf "law" "law" (defArgs s_law) (defBody s_law) (defScope s_law) .none kV_law dc_law pm_law an_law cd_law ct_law), sl_law⟩)
    (q_law : PySem.W.codeIn K cd_law "law" = true)
    (k_law : PySem.W.keepIn K (.ref f_law) = true)
    (x_NoPlace : PySem.W.excIn K c_NoPlace [.type "ValueError", .type "Exception", .type "BaseException", .type "object"] "ValueError.__new__" = true)
    (k_NoPlace : PySem.W.keepIn K (.ref c_NoPlace) = true)
    (x_NoWindow : PySem.W.excIn K c_NoWindow [.type "ValueError", .type "Exception", .type "BaseException", .type "object"] "ValueError.__new__" = true)
    (k_NoWindow : PySem.W.keepIn K (.ref c_NoWindow) = true)
    (b_NoPlace : PySem.W.subIn K (.ref c_NoPlace) (.type "BaseException") = some true)
    (t_NoPlace : PySem.W.typeIn K (.ref c_NoPlace) = some (.type "type"))
    (h_NoPlace : PySem.W.hasDictIn K c_NoPlace = true)
    (b_NoWindow : PySem.W.subIn K (.ref c_NoWindow) (.type "BaseException") = some true)
    (t_NoWindow : PySem.W.typeIn K (.ref c_NoWindow) = some (.type "type"))
    (h_NoWindow : PySem.W.hasDictIn K c_NoWindow = true)
    (b_RowError : PySem.W.subIn K (.ref c_RowError) (.type "BaseException") = some true)
    (t_RowError : PySem.W.typeIn K (.ref c_RowError) = some (.type "type"))
    (h_RowError : PySem.W.hasDictIn K c_RowError = true)
    (s_NoPlace_RowError : PySem.W.subIn K (.ref c_NoPlace) (.ref c_RowError) = some true)
    (q_NoPlace_NoPlace : PySem.W.kitOne K (.ref c_NoPlace) (.ref c_NoPlace) = some true)
    (q_NoPlace_NoWindow : PySem.W.kitOne K (.ref c_NoPlace) (.ref c_NoWindow) = some false)
    (q_NoPlace_NoCommand : PySem.W.kitOne K (.ref c_NoPlace) (.ref c_NoCommand) = some false)
    (q_NoPlace_NoNeeds : PySem.W.kitOne K (.ref c_NoPlace) (.ref c_NoNeeds) = some false)
    (q_NoPlace_NoRow : PySem.W.kitOne K (.ref c_NoPlace) (.ref c_NoRow) = some false)
    (q_NoPlace_NoTable : PySem.W.kitOne K (.ref c_NoPlace) (.ref c_NoTable) = some false)
    (q_NoPlace_ValueError : PySem.W.kitOne K (.ref c_NoPlace) (.type "ValueError") = some true)
    (Ehg_NoPlace : PySem.W.findIn K (.ref c_NoPlace) "__getattribute__" = some (some (.builtin "BaseException.__getattribute__")))
    (Ehk_NoPlace : PySem.W.findIn K (.ref c_NoPlace) "__getattr__" = some none)
    (Eha_NoPlace : PySem.W.findIn K (.ref c_NoPlace) "__class__" = some (some (.builtin "object.__class__")))
    (Ehm_NoPlace : PySem.W.mroIn K c_NoPlace (.type "object") = some true)
    (s_NoWindow_RowError : PySem.W.subIn K (.ref c_NoWindow) (.ref c_RowError) = some true)
    (q_NoWindow_NoPlace : PySem.W.kitOne K (.ref c_NoWindow) (.ref c_NoPlace) = some false)
    (q_NoWindow_NoWindow : PySem.W.kitOne K (.ref c_NoWindow) (.ref c_NoWindow) = some true)
    (q_NoWindow_NoCommand : PySem.W.kitOne K (.ref c_NoWindow) (.ref c_NoCommand) = some false)
    (q_NoWindow_NoNeeds : PySem.W.kitOne K (.ref c_NoWindow) (.ref c_NoNeeds) = some false)
    (q_NoWindow_NoRow : PySem.W.kitOne K (.ref c_NoWindow) (.ref c_NoRow) = some false)
    (q_NoWindow_NoTable : PySem.W.kitOne K (.ref c_NoWindow) (.ref c_NoTable) = some false)
    (q_NoWindow_ValueError : PySem.W.kitOne K (.ref c_NoWindow) (.type "ValueError") = some true)
    (Ehg_NoWindow : PySem.W.findIn K (.ref c_NoWindow) "__getattribute__" = some (some (.builtin "BaseException.__getattribute__")))
    (Ehk_NoWindow : PySem.W.findIn K (.ref c_NoWindow) "__getattr__" = some none)
    (Eha_NoWindow : PySem.W.findIn K (.ref c_NoWindow) "__class__" = some (some (.builtin "object.__class__")))
    (Ehm_NoWindow : PySem.W.mroIn K c_NoWindow (.type "object") = some true)
    (Ehn : PySem.W.specialIn K (.builtin "object.__class__") "__get__" = some (some (.builtin "getset_descriptor.__get__")))
    (Eht : PySem.W.takesIn K (.builtin "object.__class__") = some true)
    (z_ValueError : PySem.W.nsIn K mainGlobals "ValueError" = some none)
    (z_abs : PySem.W.nsIn K mainGlobals "abs" = some none)
    (z_bool : PySem.W.nsIn K mainGlobals "bool" = some none)
    (z_enumerate : PySem.W.nsIn K mainGlobals "enumerate" = some none)
    (z_int : PySem.W.nsIn K mainGlobals "int" = some none)
    (z_isinstance : PySem.W.nsIn K mainGlobals "isinstance" = some none)
    (z_len : PySem.W.nsIn K mainGlobals "len" = some none)
    (z_list : PySem.W.nsIn K mainGlobals "list" = some none)
    (z_min : PySem.W.nsIn K mainGlobals "min" = some none)
    (z_range : PySem.W.nsIn K mainGlobals "range" = some none)
    : ∃ fd : FuncData, (∀ (s : Shared) (v : Value), BindsTo s fd ⟨[v], []⟩ [("script", v)]) ∧ ∀ base : Heap, K.In base → base.Ns mainGlobals mg → FnOk l.prog w K mg base CX0 8 fa fd ["script"] (sp_law K) := by
  have e0 := (PySem.W.mg_of X G a_law).symm.trans hfa
  have e : f_law = fa := by injection e0 with e0; injection e0
  subst e
  have F_Live___init__ := fun_mk (st := s_Live___init__) l_Live___init__ q_Live___init__ k_Live___init__
  have b_Live___init__ := F_Live___init__.binds (ps := ["self", "row"]) fun _ _ _ _ _ _ us hl => match us, hl with | [_, _], _ => rfl
  have F_Live_row := fun_mk (st := s_Live_row) l_Live_row q_Live_row k_Live_row
  have b_Live_row := F_Live_row.binds (ps := ["self"]) fun _ _ _ _ _ _ us hl => match us, hl with | [_], _ => rfl
  have F_Live_laid := fun_mk (st := s_Live_laid) l_Live_laid q_Live_laid k_Live_laid
  have b_Live_laid := F_Live_laid.binds (ps := ["self", "place", "many", "numbers"]) fun _ _ _ _ _ _ us hl => match us, hl with | [_, _, _, _], _ => rfl
  have F_Live_undo := fun_mk (st := s_Live_undo) l_Live_undo q_Live_undo k_Live_undo
  have b_Live_undo := F_Live_undo.binds (ps := ["self"]) fun _ _ _ _ _ _ us hl => match us, hl with | [_], _ => rfl
  have F__law_number := fun_mk (st := s__law_number) l__law_number q__law_number k__law_number
  have b__law_number := F__law_number.binds (ps := ["kind", "k"]) fun _ _ _ _ _ _ us hl => match us, hl with | [_, _], _ => rfl
  have F__law_take := fun_mk (st := s__law_take) l__law_take q__law_take k__law_take
  have b__law_take := F__law_take.binds (ps := ["draws", "many"]) fun _ _ _ _ _ _ us hl => match us, hl with | [_, _], _ => rfl
  have F__law_any := fun_mk (st := s__law_any) l__law_any q__law_any k__law_any
  have b__law_any := F__law_any.binds (ps := ["draws"]) fun _ _ _ _ _ _ us hl => match us, hl with | [_], _ => rfl
  have F__law_deep := fun_mk (st := s__law_deep) l__law_deep q__law_deep k__law_deep
  have b__law_deep := F__law_deep.binds (ps := ["many"]) fun _ _ _ _ _ _ us hl => match us, hl with | [_], _ => rfl
  have F__law_bad_place := fun_mk (st := s__law_bad_place) l__law_bad_place q__law_bad_place k__law_bad_place
  have b__law_bad_place := F__law_bad_place.binds (ps := ["draws", "long", "put"]) fun _ _ _ _ _ _ us hl => match us, hl with | [_, _, _], _ => rfl
  have F__law_bad_window := fun_mk (st := s__law_bad_window) l__law_bad_window q__law_bad_window k__law_bad_window
  have b__law_bad_window := F__law_bad_window.binds (ps := ["draws", "long"]) fun _ _ _ _ _ _ us hl => match us, hl with | [_, _], _ => rfl
  have F_Live_need_place := fun_mk (st := s_Live_need_place) l_Live_need_place q_Live_need_place k_Live_need_place
  have b_Live_need_place := F_Live_need_place.binds (ps := ["self", "place", "most"]) fun _ _ _ _ _ _ us hl => match us, hl with | [_, _, _], _ => rfl
  have F_Live_noted := fun_mk (st := s_Live_noted) l_Live_noted q_Live_noted k_Live_noted
  have b_Live_noted := F_Live_noted.binds (ps := ["self", "place", "many", "numbers"]) fun _ _ _ _ _ _ us hl => match us, hl with | [_, _, _, _], _ => rfl
  have F_Live_change := fun_mk (st := s_Live_change) l_Live_change q_Live_change k_Live_change
  have b_Live_change := F_Live_change.binds (ps := ["self", "place", "number"]) fun _ _ _ _ _ _ us hl => match us, hl with | [_, _, _], _ => rfl
  have F_last_places := fun_mk (st := s_last_places) l_last_places q_last_places k_last_places
  have b_last_places := F_last_places.binds (ps := ["row"]) fun _ _ _ _ _ _ us hl => match us, hl with | [_], _ => rfl
  have F_next_places := fun_mk (st := s_next_places) l_next_places q_next_places k_next_places
  have b_next_places := F_next_places.binds (ps := ["row"]) fun _ _ _ _ _ _ us hl => match us, hl with | [_], _ => rfl
  have F_Ready___init__ := fun_mk (st := s_Ready___init__) l_Ready___init__ q_Ready___init__ k_Ready___init__
  have b_Ready___init__ := F_Ready___init__.binds (ps := ["self", "row"]) fun _ _ _ _ _ _ us hl => match us, hl with | [_, _], _ => rfl
  have F_Live_ready := fun_mk (st := s_Live_ready) l_Live_ready q_Live_ready k_Live_ready
  have b_Live_ready := F_Live_ready.binds (ps := ["self"]) fun _ _ _ _ _ _ us hl => match us, hl with | [_], _ => rfl
  have F_is_whole := fun_mk (st := s_is_whole) l_is_whole q_is_whole k_is_whole
  have b_is_whole := F_is_whole.binds (ps := ["thing"]) fun _ _ _ _ _ _ us hl => match us, hl with | [_], _ => rfl
  have F_Ready_need_place := fun_mk (st := s_Ready_need_place) l_Ready_need_place q_Ready_need_place k_Ready_need_place
  have b_Ready_need_place := F_Ready_need_place.binds (ps := ["self", "place"]) fun _ _ _ _ _ _ us hl => match us, hl with | [_, _], _ => rfl
  have F_Ready_need_window := fun_mk (st := s_Ready_need_window) l_Ready_need_window q_Ready_need_window k_Ready_need_window
  have b_Ready_need_window := F_Ready_need_window.binds (ps := ["self", "first", "behind"]) fun _ _ _ _ _ _ us hl => match us, hl with | [_, _, _], _ => rfl
  have F_Ready_firsts := fun_mk (st := s_Ready_firsts) l_Ready_firsts q_Ready_firsts k_Ready_firsts
  have b_Ready_firsts := F_Ready_firsts.binds (ps := ["self", "first", "behind"]) fun _ _ _ _ _ _ us hl => match us, hl with | [_, _, _], _ => rfl
  have F_Live_firsts := fun_mk (st := s_Live_firsts) l_Live_firsts q_Live_firsts k_Live_firsts
  have b_Live_firsts := F_Live_firsts.binds (ps := ["self", "first", "behind"]) fun _ _ _ _ _ _ us hl => match us, hl with | [_, _, _], _ => rfl
  have F_Live_put := fun_mk (st := s_Live_put) l_Live_put q_Live_put k_Live_put
  have b_Live_put := F_Live_put.binds (ps := ["self", "place", "number"]) fun _ _ _ _ _ _ us hl => match us, hl with | [_, _, _], _ => rfl
  have F_Live_take := fun_mk (st := s_Live_take) l_Live_take q_Live_take k_Live_take
  have b_Live_take := F_Live_take.binds (ps := ["self", "place"]) fun _ _ _ _ _ _ us hl => match us, hl with | [_, _], _ => rfl
  have F_Ready_unlike := fun_mk (st := s_Ready_unlike) l_Ready_unlike q_Ready_unlike k_Ready_unlike
  have b_Ready_unlike := F_Ready_unlike.binds (ps := ["self", "first", "behind"]) fun _ _ _ _ _ _ us hl => match us, hl with | [_, _, _], _ => rfl
  have F_Live_unlike := fun_mk (st := s_Live_unlike) l_Live_unlike q_Live_unlike k_Live_unlike
  have b_Live_unlike := F_Live_unlike.binds (ps := ["self", "first", "behind"]) fun _ _ _ _ _ _ us hl => match us, hl with | [_, _, _], _ => rfl
  have F__law_caught := fun_mk (st := s__law_caught) l__law_caught q__law_caught k__law_caught
  have b__law_caught := F__law_caught.binds (ps := ["live", "way", "one", "other"]) fun _ _ _ _ _ _ us hl => match us, hl with | [_, _, _, _], _ => rfl
  have F__law_whole := fun_mk (st := s__law_whole) l__law_whole q__law_whole k__law_whole
  have b__law_whole := F__law_whole.binds (ps := ["thing"]) fun _ _ _ _ _ _ us hl => match us, hl with | [_], _ => rfl
  have F__law_deed := fun_mk (st := s__law_deed) l__law_deed q__law_deed k__law_deed
  have b__law_deed := F__law_deed.binds (ps := ["draws", "live", "state"]) fun _ _ _ _ _ _ us hl => match us, hl with | [_, _, _], _ => rfl
  have F__law_draws := fun_mk (st := s__law_draws) l__law_draws q__law_draws k__law_draws
  have b__law_draws := F__law_draws.binds (ps := ["script"]) fun _ _ _ _ _ _ us hl => match us, hl with | [_], _ => rfl
  have F__law_row := fun_mk (st := s__law_row) l__law_row q__law_row k__law_row
  have b__law_row := F__law_row.binds (ps := ["draws", "most"]) fun _ _ _ _ _ _ us hl => match us, hl with | [_, _], _ => rfl
  have F__law_firsts := fun_mk (st := s__law_firsts) l__law_firsts q__law_firsts k__law_firsts
  have b__law_firsts := F__law_firsts.binds (ps := ["row", "first", "behind"]) fun _ _ _ _ _ _ us hl => match us, hl with | [_, _, _], _ => rfl
  have F__law_window_right := fun_mk (st := s__law_window_right) l__law_window_right q__law_window_right k__law_window_right
  have b__law_window_right := F__law_window_right.binds (ps := ["live", "row", "first", "behind"]) fun _ _ _ _ _ _ us hl => match us, hl with | [_, _, _, _], _ => rfl
  have F_law := fun_mk (st := s_law) l_law q_law k_law
  have b_law := F_law.binds (ps := ["script"]) fun _ _ _ _ _ _ us hl => match us, hl with | [_], _ => rfl
  have T : Txt K mg { f_Live___init__ := f_Live___init__, d_Live___init__ := (PySem.W.fnOf "__init__" "Live.__init__" (defArgs s_Live___init__) (defBody s_Live___init__) (defScope s_Live___init__) .none kV_Live___init__ dc_Live___init__ pm_Live___init__ an_Live___init__ cd_Live___init__ ct_Live___init__), f_Live_row := f_Live_row, d_Live_row := (PySem.W.fnOf "row" "Live.row" (defArgs s_Live_row) (defBody s_Live_row) (defScope s_Live_row) .none kV_Live_row dc_Live_row pm_Live_row an_Live_row cd_Live_row ct_Live_row), f_Live_laid := f_Live_laid, d_Live_laid := (PySem.W.fnOf "laid" "Live.laid" (defArgs s_Live_laid) (defBody s_Live_laid) (defScope s_Live_laid) .none kV_Live_laid dc_Live_laid pm_Live_laid an_Live_laid cd_Live_laid ct_Live_laid), f_Live_undo := f_Live_undo, d_Live_undo := (PySem.W.fnOf "undo" "Live.undo" (defArgs s_Live_undo) (defBody s_Live_undo) (defScope s_Live_undo) .none kV_Live_undo dc_Live_undo pm_Live_undo an_Live_undo cd_Live_undo ct_Live_undo), f__law_number := f__law_number, d__law_number := (PySem.W.fnOf "_law_number" "_law_number" (defArgs s__law_number) (defBody s__law_number) (defScope s__law_number) .none kV__law_number dc__law_number pm__law_number an__law_number cd__law_number ct__law_number), f__law_take := f__law_take, d__law_take := (PySem.W.fnOf "_law_take" "_law_take" (defArgs s__law_take) (defBody s__law_take) (defScope s__law_take) .none kV__law_take dc__law_take pm__law_take an__law_take cd__law_take ct__law_take), f__law_any := f__law_any, d__law_any := (PySem.W.fnOf "_law_any" "_law_any" (defArgs s__law_any) (defBody s__law_any) (defScope s__law_any) .none kV__law_any dc__law_any pm__law_any an__law_any cd__law_any ct__law_any), f__law_deep := f__law_deep, d__law_deep := (PySem.W.fnOf "_law_deep" "_law_deep" (defArgs s__law_deep) (defBody s__law_deep) (defScope s__law_deep) .none kV__law_deep dc__law_deep pm__law_deep an__law_deep cd__law_deep ct__law_deep), f__law_bad_place := f__law_bad_place, d__law_bad_place := (PySem.W.fnOf "_law_bad_place" "_law_bad_place" (defArgs s__law_bad_place) (defBody s__law_bad_place) (defScope s__law_bad_place) .none kV__law_bad_place dc__law_bad_place pm__law_bad_place an__law_bad_place cd__law_bad_place ct__law_bad_place), f__law_bad_window := f__law_bad_window, d__law_bad_window := (PySem.W.fnOf "_law_bad_window" "_law_bad_window" (defArgs s__law_bad_window) (defBody s__law_bad_window) (defScope s__law_bad_window) .none kV__law_bad_window dc__law_bad_window pm__law_bad_window an__law_bad_window cd__law_bad_window ct__law_bad_window), f_Live_need_place := f_Live_need_place, d_Live_need_place := (PySem.W.fnOf "need_place" "Live.need_place" (defArgs s_Live_need_place) (defBody s_Live_need_place) (defScope s_Live_need_place) .none kV_Live_need_place dc_Live_need_place pm_Live_need_place an_Live_need_place cd_Live_need_place ct_Live_need_place), f_Live_noted := f_Live_noted, d_Live_noted := (PySem.W.fnOf "noted" "Live.noted" (defArgs s_Live_noted) (defBody s_Live_noted) (defScope s_Live_noted) .none kV_Live_noted dc_Live_noted pm_Live_noted an_Live_noted cd_Live_noted ct_Live_noted), f_Live_change := f_Live_change, d_Live_change := (PySem.W.fnOf "change" "Live.change" (defArgs s_Live_change) (defBody s_Live_change) (defScope s_Live_change) .none kV_Live_change dc_Live_change pm_Live_change an_Live_change cd_Live_change ct_Live_change), f_last_places := f_last_places, d_last_places := (PySem.W.fnOf "last_places" "last_places" (defArgs s_last_places) (defBody s_last_places) (defScope s_last_places) .none kV_last_places dc_last_places pm_last_places an_last_places cd_last_places ct_last_places), f_next_places := f_next_places, d_next_places := (PySem.W.fnOf "next_places" "next_places" (defArgs s_next_places) (defBody s_next_places) (defScope s_next_places) .none kV_next_places dc_next_places pm_next_places an_next_places cd_next_places ct_next_places), f_Ready___init__ := f_Ready___init__, d_Ready___init__ := (PySem.W.fnOf "__init__" "Ready.__init__" (defArgs s_Ready___init__) (defBody s_Ready___init__) (defScope s_Ready___init__) .none kV_Ready___init__ dc_Ready___init__ pm_Ready___init__ an_Ready___init__ cd_Ready___init__ ct_Ready___init__), f_Live_ready := f_Live_ready, d_Live_ready := (PySem.W.fnOf "ready" "Live.ready" (defArgs s_Live_ready) (defBody s_Live_ready) (defScope s_Live_ready) .none kV_Live_ready dc_Live_ready pm_Live_ready an_Live_ready cd_Live_ready ct_Live_ready), f_is_whole := f_is_whole, d_is_whole := (PySem.W.fnOf "is_whole" "is_whole" (defArgs s_is_whole) (defBody s_is_whole) (defScope s_is_whole) .none kV_is_whole dc_is_whole pm_is_whole an_is_whole cd_is_whole ct_is_whole), f_Ready_need_place := f_Ready_need_place, d_Ready_need_place := (PySem.W.fnOf "need_place" "Ready.need_place" (defArgs s_Ready_need_place) (defBody s_Ready_need_place) (defScope s_Ready_need_place) .none kV_Ready_need_place dc_Ready_need_place pm_Ready_need_place an_Ready_need_place cd_Ready_need_place ct_Ready_need_place), f_Ready_need_window := f_Ready_need_window, d_Ready_need_window := (PySem.W.fnOf "need_window" "Ready.need_window" (defArgs s_Ready_need_window) (defBody s_Ready_need_window) (defScope s_Ready_need_window) .none kV_Ready_need_window dc_Ready_need_window pm_Ready_need_window an_Ready_need_window cd_Ready_need_window ct_Ready_need_window), f_Ready_firsts := f_Ready_firsts, d_Ready_firsts := (PySem.W.fnOf "firsts" "Ready.firsts" (defArgs s_Ready_firsts) (defBody s_Ready_firsts) (defScope s_Ready_firsts) .none kV_Ready_firsts dc_Ready_firsts pm_Ready_firsts an_Ready_firsts cd_Ready_firsts ct_Ready_firsts), f_Live_firsts := f_Live_firsts, d_Live_firsts := (PySem.W.fnOf "firsts" "Live.firsts" (defArgs s_Live_firsts) (defBody s_Live_firsts) (defScope s_Live_firsts) .none kV_Live_firsts dc_Live_firsts pm_Live_firsts an_Live_firsts cd_Live_firsts ct_Live_firsts), f_Live_put := f_Live_put, d_Live_put := (PySem.W.fnOf "put" "Live.put" (defArgs s_Live_put) (defBody s_Live_put) (defScope s_Live_put) .none kV_Live_put dc_Live_put pm_Live_put an_Live_put cd_Live_put ct_Live_put), f_Live_take := f_Live_take, d_Live_take := (PySem.W.fnOf "take" "Live.take" (defArgs s_Live_take) (defBody s_Live_take) (defScope s_Live_take) .none kV_Live_take dc_Live_take pm_Live_take an_Live_take cd_Live_take ct_Live_take), f_Ready_unlike := f_Ready_unlike, d_Ready_unlike := (PySem.W.fnOf "unlike" "Ready.unlike" (defArgs s_Ready_unlike) (defBody s_Ready_unlike) (defScope s_Ready_unlike) .none kV_Ready_unlike dc_Ready_unlike pm_Ready_unlike an_Ready_unlike cd_Ready_unlike ct_Ready_unlike), f_Live_unlike := f_Live_unlike, d_Live_unlike := (PySem.W.fnOf "unlike" "Live.unlike" (defArgs s_Live_unlike) (defBody s_Live_unlike) (defScope s_Live_unlike) .none kV_Live_unlike dc_Live_unlike pm_Live_unlike an_Live_unlike cd_Live_unlike ct_Live_unlike), f__law_caught := f__law_caught, d__law_caught := (PySem.W.fnOf "_law_caught" "_law_caught" (defArgs s__law_caught) (defBody s__law_caught) (defScope s__law_caught) .none kV__law_caught dc__law_caught pm__law_caught an__law_caught cd__law_caught ct__law_caught), f__law_whole := f__law_whole, d__law_whole := (PySem.W.fnOf "_law_whole" "_law_whole" (defArgs s__law_whole) (defBody s__law_whole) (defScope s__law_whole) .none kV__law_whole dc__law_whole pm__law_whole an__law_whole cd__law_whole ct__law_whole), f__law_deed := f__law_deed, d__law_deed := (PySem.W.fnOf "_law_deed" "_law_deed" (defArgs s__law_deed) (defBody s__law_deed) (defScope s__law_deed) .none kV__law_deed dc__law_deed pm__law_deed an__law_deed cd__law_deed ct__law_deed), f__law_draws := f__law_draws, d__law_draws := (PySem.W.fnOf "_law_draws" "_law_draws" (defArgs s__law_draws) (defBody s__law_draws) (defScope s__law_draws) .none kV__law_draws dc__law_draws pm__law_draws an__law_draws cd__law_draws ct__law_draws), f__law_row := f__law_row, d__law_row := (PySem.W.fnOf "_law_row" "_law_row" (defArgs s__law_row) (defBody s__law_row) (defScope s__law_row) .none kV__law_row dc__law_row pm__law_row an__law_row cd__law_row ct__law_row), f__law_firsts := f__law_firsts, d__law_firsts := (PySem.W.fnOf "_law_firsts" "_law_firsts" (defArgs s__law_firsts) (defBody s__law_firsts) (defScope s__law_firsts) .none kV__law_firsts dc__law_firsts pm__law_firsts an__law_firsts cd__law_firsts ct__law_firsts), f__law_window_right := f__law_window_right, d__law_window_right := (PySem.W.fnOf "_law_window_right" "_law_window_right" (defArgs s__law_window_right) (defBody s__law_window_right) (defScope s__law_window_right) .none kV__law_window_right dc__law_window_right pm__law_window_right an__law_window_right cd__law_window_right ct__law_window_right), f_law := f_law, d_law := (PySem.W.fnOf "law" "law" (defArgs s_law) (defBody s_law) (defScope s_law) .none kV_law dc_law pm_law an_law cd_law ct_law), c_Live := c_Live, c_NoPlace := c_NoPlace, c_Ready := c_Ready, c_NoWindow := c_NoWindow, c_RowError := c_RowError, c_NoCommand := c_NoCommand, c_NoNeeds := c_NoNeeds, c_NoRow := c_NoRow, c_NoTable := c_NoTable } := {
    F_Live___init__ := F_Live___init__,
    b_Live___init__ := b_Live___init__,
    M_Live := ⟨mk_Live, a_Live___init__, i_Live___init__, kc_Live⟩,
    F_Live_row := F_Live_row,
    b_Live_row := b_Live_row,
    M_Live_row := ⟨a_Live_row, i_Live_row, k_Live_row⟩,
    F_Live_laid := F_Live_laid,
    b_Live_laid := b_Live_laid,
    M_Live_laid := ⟨a_Live_laid, i_Live_laid, k_Live_laid⟩,
    F_Live_undo := F_Live_undo,
    b_Live_undo := b_Live_undo,
    M_Live_undo := ⟨a_Live_undo, i_Live_undo, k_Live_undo⟩,
    F__law_number := F__law_number,
    b__law_number := b__law_number,
    g__law_number := PySem.W.mg_of X G a__law_number,
    F__law_take := F__law_take,
    b__law_take := b__law_take,
    g__law_take := PySem.W.mg_of X G a__law_take,
    F__law_any := F__law_any,
    b__law_any := b__law_any,
    g__law_any := PySem.W.mg_of X G a__law_any,
    F__law_deep := F__law_deep,
    b__law_deep := b__law_deep,
    g__law_deep := PySem.W.mg_of X G a__law_deep,
    F__law_bad_place := F__law_bad_place,
    b__law_bad_place := b__law_bad_place,
    g__law_bad_place := PySem.W.mg_of X G a__law_bad_place,
    F__law_bad_window := F__law_bad_window,
    b__law_bad_window := b__law_bad_window,
    g__law_bad_window := PySem.W.mg_of X G a__law_bad_window,
    F_Live_need_place := F_Live_need_place,
    b_Live_need_place := b_Live_need_place,
    M_Live_need_place := ⟨a_Live_need_place, i_Live_need_place, k_Live_need_place⟩,
    F_Live_noted := F_Live_noted,
    b_Live_noted := b_Live_noted,
    M_Live_noted := ⟨a_Live_noted, i_Live_noted, k_Live_noted⟩,
    F_Live_change := F_Live_change,
    b_Live_change := b_Live_change,
    M_Live_change := ⟨a_Live_change, i_Live_change, k_Live_change⟩,
    F_last_places := F_last_places,
    b_last_places := b_last_places,
    g_last_places := PySem.W.mg_of X G a_last_places,
    F_next_places := F_next_places,
    b_next_places := b_next_places,
    g_next_places := PySem.W.mg_of X G a_next_places,
    F_Ready___init__ := F_Ready___init__,
    b_Ready___init__ := b_Ready___init__,
    M_Ready := ⟨mk_Ready, a_Ready___init__, i_Ready___init__, kc_Ready⟩,
    F_Live_ready := F_Live_ready,
    b_Live_ready := b_Live_ready,
    M_Live_ready := ⟨a_Live_ready, i_Live_ready, k_Live_ready⟩,
    F_is_whole := F_is_whole,
    b_is_whole := b_is_whole,
    g_is_whole := PySem.W.mg_of X G a_is_whole,
    F_Ready_need_place := F_Ready_need_place,
    b_Ready_need_place := b_Ready_need_place,
    M_Ready_need_place := ⟨a_Ready_need_place, i_Ready_need_place, k_Ready_need_place⟩,
    F_Ready_need_window := F_Ready_need_window,
    b_Ready_need_window := b_Ready_need_window,
    M_Ready_need_window := ⟨a_Ready_need_window, i_Ready_need_window, k_Ready_need_window⟩,
    F_Ready_firsts := F_Ready_firsts,
    b_Ready_firsts := b_Ready_firsts,
    M_Ready_firsts := ⟨a_Ready_firsts, i_Ready_firsts, k_Ready_firsts⟩,
    F_Live_firsts := F_Live_firsts,
    b_Live_firsts := b_Live_firsts,
    M_Live_firsts := ⟨a_Live_firsts, i_Live_firsts, k_Live_firsts⟩,
    F_Live_put := F_Live_put,
    b_Live_put := b_Live_put,
    M_Live_put := ⟨a_Live_put, i_Live_put, k_Live_put⟩,
    F_Live_take := F_Live_take,
    b_Live_take := b_Live_take,
    M_Live_take := ⟨a_Live_take, i_Live_take, k_Live_take⟩,
    F_Ready_unlike := F_Ready_unlike,
    b_Ready_unlike := b_Ready_unlike,
    M_Ready_unlike := ⟨a_Ready_unlike, i_Ready_unlike, k_Ready_unlike⟩,
    F_Live_unlike := F_Live_unlike,
    b_Live_unlike := b_Live_unlike,
    M_Live_unlike := ⟨a_Live_unlike, i_Live_unlike, k_Live_unlike⟩,
    F__law_caught := F__law_caught,
    b__law_caught := b__law_caught,
    g__law_caught := PySem.W.mg_of X G a__law_caught,
    F__law_whole := F__law_whole,
    b__law_whole := b__law_whole,
    g__law_whole := PySem.W.mg_of X G a__law_whole,
    F__law_deed := F__law_deed,
    b__law_deed := b__law_deed,
    g__law_deed := PySem.W.mg_of X G a__law_deed,
    F__law_draws := F__law_draws,
    b__law_draws := b__law_draws,
    g__law_draws := PySem.W.mg_of X G a__law_draws,
    F__law_row := F__law_row,
    b__law_row := b__law_row,
    g__law_row := PySem.W.mg_of X G a__law_row,
    F__law_firsts := F__law_firsts,
    b__law_firsts := b__law_firsts,
    g__law_firsts := PySem.W.mg_of X G a__law_firsts,
    F__law_window_right := F__law_window_right,
    b__law_window_right := b__law_window_right,
    g__law_window_right := PySem.W.mg_of X G a__law_window_right,
    F_law := F_law,
    b_law := b_law,
    g_law := PySem.W.mg_of X G a_law,
    g_Live := PySem.W.mg_of X G aC_Live,
    C_Live := ⟨pg_Live, hd_Live, po_Live, sa_Live⟩,
    n_Live_numbers := n_Live_numbers,
    n_Live_changes := n_Live_changes,
    n_Live_made := n_Live_made,
    g_NoPlace := PySem.W.mg_of X G aC_NoPlace,
    g_Ready := PySem.W.mg_of X G aC_Ready,
    C_Ready := ⟨pg_Ready, hd_Ready, po_Ready, sa_Ready⟩,
    n_Ready_many := n_Ready_many,
    n_Ready_lasts := n_Ready_lasts,
    n_Ready_nexts := n_Ready_nexts,
    g_NoWindow := PySem.W.mg_of X G aC_NoWindow,
    g_RowError := PySem.W.mg_of X G aC_RowError,
    g_NoCommand := PySem.W.mg_of X G aC_NoCommand,
    g_NoNeeds := PySem.W.mg_of X G aC_NoNeeds,
    g_NoRow := PySem.W.mg_of X G aC_NoRow,
    g_NoTable := PySem.W.mg_of X G aC_NoTable,
    x_NoPlace := x_NoPlace,
    k_NoPlace := k_NoPlace,
    x_NoWindow := x_NoWindow,
    k_NoWindow := k_NoWindow,
    b_NoPlace := b_NoPlace,
    t_NoPlace := t_NoPlace,
    h_NoPlace := h_NoPlace,
    b_NoWindow := b_NoWindow,
    t_NoWindow := t_NoWindow,
    h_NoWindow := h_NoWindow,
    b_RowError := b_RowError,
    t_RowError := t_RowError,
    h_RowError := h_RowError,
    s_NoPlace_RowError := s_NoPlace_RowError,
    q_NoPlace_NoPlace := q_NoPlace_NoPlace,
    q_NoPlace_NoWindow := q_NoPlace_NoWindow,
    q_NoPlace_NoCommand := q_NoPlace_NoCommand,
    q_NoPlace_NoNeeds := q_NoPlace_NoNeeds,
    q_NoPlace_NoRow := q_NoPlace_NoRow,
    q_NoPlace_NoTable := q_NoPlace_NoTable,
    q_NoPlace_ValueError := q_NoPlace_ValueError,
    Ehg_NoPlace := Ehg_NoPlace,
    Ehk_NoPlace := Ehk_NoPlace,
    Eha_NoPlace := Eha_NoPlace,
    Ehm_NoPlace := Ehm_NoPlace,
    s_NoWindow_RowError := s_NoWindow_RowError,
    q_NoWindow_NoPlace := q_NoWindow_NoPlace,
    q_NoWindow_NoWindow := q_NoWindow_NoWindow,
    q_NoWindow_NoCommand := q_NoWindow_NoCommand,
    q_NoWindow_NoNeeds := q_NoWindow_NoNeeds,
    q_NoWindow_NoRow := q_NoWindow_NoRow,
    q_NoWindow_NoTable := q_NoWindow_NoTable,
    q_NoWindow_ValueError := q_NoWindow_ValueError,
    Ehg_NoWindow := Ehg_NoWindow,
    Ehk_NoWindow := Ehk_NoWindow,
    Eha_NoWindow := Eha_NoWindow,
    Ehm_NoWindow := Ehm_NoWindow,
    Ehn := Ehn,
    Eht := Eht,
    m_ValueError := PySem.W.mg_none_of X G z_ValueError,
    m_abs := PySem.W.mg_none_of X G z_abs,
    m_bool := PySem.W.mg_none_of X G z_bool,
    m_enumerate := PySem.W.mg_none_of X G z_enumerate,
    m_int := PySem.W.mg_none_of X G z_int,
    m_isinstance := PySem.W.mg_none_of X G z_isinstance,
    m_len := PySem.W.mg_none_of X G z_len,
    m_list := PySem.W.mg_none_of X G z_list,
    m_min := PySem.W.mg_none_of X G z_min,
    m_range := PySem.W.mg_none_of X G z_range }
  exact ⟨(PySem.W.fnOf "law" "law" (defArgs s_law) (defBody s_law) (defScope s_law) .none kV_law dc_law pm_law an_law cd_law ct_law), fun s v => .of_eq rfl, fun base _ _ => ok_law T⟩
theorem walk {l : PySem.W.OpenLaw} {q : Program} {loose : List Str} {XP : (Str → Option Value) → Heap → Prop} {YP : World → Heap → Prop} {d : DefRec} {K : Params → PySem.W.Frag} (hn : l.most = some 63) (hdf : d.params.defaults = [])
    (hY : ∀ (w : World) (h : Heap), YP w h → (K w.params).In h)
    (F : ∀ (w : World) (mg : Str → Option Value) (fa : Addr) (h : Heap), (K w.params).In h → h.Ns mainGlobals mg → mg d.name = some (.ref fa) →
      ∃ fd : FuncData, (∀ (s : Shared) (u : Value), BindsTo s fd ⟨[u], []⟩ [("script", u)]) ∧ ∀ base : Heap, (K w.params).In base → base.Ns mainGlobals mg → FnOk l.prog w (K w.params) mg base CX0 8 fa fd ["script"] (sp_law (K w.params))) :
    PySem.W.WalkO q loose XP YP l.row.toRowW d [] (fun f vs => PySem.call f vs) :=
  L2.walk_of (n := 63) (k := 8) (x := "script") (CX := fun _ => CX0) (sp := fun w => sp_law (K w.params)) hn (by decide) hdf ⟨rfl, by decide, by decide⟩ hY F (fun _ _ a ns hl _ hS => ⟨a, ns, rfl, hS, hl, fun _ => rfl⟩) fun _ _ _ _ _ z => z
end Ur
open PySem PySem.W PyProof.Rows in
set_option maxRecDepth 100000 in
set_option maxHeartbeats 0 in
theorem PySem.Challenge.cw_unlikerow_k50_no_places_of_live_rows_holds : PySem.Challenge.rw_unlikerow_k50_no_places_of_live_rows.Holds := by
  w_on; o_law; k_head; (case hw => w_witness2)
  k_fill
  refine Ur.walk (l := PySem.Challenge.rw_unlikerow_k50_no_places_of_live_rows) rfl rfl (fun w h Y => PySem.W.kIn_of Y) ?F
  case F =>
    intro w mg fa h KX G hmg
    refine' Ur.all_mk KX G hmg ?aC_Live ?pg_Live ?hd_Live ?po_Live ?sa_Live ?mk_Live ?kc_Live ?n_Live_numbers ?n_Live_changes ?n_Live_made ?aC_NoPlace ?aC_Ready ?pg_Ready ?hd_Ready ?po_Ready ?sa_Ready ?mk_Ready ?kc_Ready ?n_Ready_many ?n_Ready_lasts ?n_Ready_nexts ?aC_NoWindow ?aC_RowError ?aC_NoCommand ?aC_NoNeeds ?aC_NoRow ?aC_NoTable ?a_Live___init__ ?i_Live___init__ ?l_Live___init__ ?q_Live___init__ ?k_Live___init__ ?a_Live_row ?i_Live_row ?l_Live_row ?q_Live_row ?k_Live_row ?a_Live_laid ?i_Live_laid ?l_Live_laid ?q_Live_laid ?k_Live_laid ?a_Live_undo ?i_Live_undo ?l_Live_undo ?q_Live_undo ?k_Live_undo ?a__law_number ?l__law_number ?q__law_number ?k__law_number ?a__law_take ?l__law_take ?q__law_take ?k__law_take ?a__law_any ?l__law_any ?q__law_any ?k__law_any ?a__law_deep ?l__law_deep ?q__law_deep ?k__law_deep ?a__law_bad_place ?l__law_bad_place ?q__law_bad_place ?k__law_bad_place ?a__law_bad_window ?l__law_bad_window ?q__law_bad_window ?k__law_bad_window ?a_Live_need_place ?i_Live_need_place ?l_Live_need_place ?q_Live_need_place ?k_Live_need_place ?a_Live_noted ?i_Live_noted ?l_Live_noted ?q_Live_noted ?k_Live_noted ?a_Live_change ?i_Live_change ?l_Live_change ?q_Live_change ?k_Live_change ?a_last_places ?l_last_places ?q_last_places ?k_last_places ?a_next_places ?l_next_places ?q_next_places ?k_next_places ?a_Ready___init__ ?i_Ready___init__ ?l_Ready___init__ ?q_Ready___init__ ?k_Ready___init__ ?a_Live_ready ?i_Live_ready ?l_Live_ready ?q_Live_ready ?k_Live_ready ?a_is_whole ?l_is_whole ?q_is_whole ?k_is_whole ?a_Ready_need_place ?i_Ready_need_place ?l_Ready_need_place ?q_Ready_need_place ?k_Ready_need_place ?a_Ready_need_window ?i_Ready_need_window ?l_Ready_need_window ?q_Ready_need_window ?k_Ready_need_window ?a_Ready_firsts ?i_Ready_firsts ?l_Ready_firsts ?q_Ready_firsts ?k_Ready_firsts ?a_Live_firsts ?i_Live_firsts ?l_Live_firsts ?q_Live_firsts ?k_Live_firsts ?a_Live_put ?i_Live_put ?l_Live_put ?q_Live_put ?k_Live_put ?a_Live_take ?i_Live_take ?l_Live_take ?q_Live_take ?k_Live_take ?a_Ready_unlike ?i_Ready_unlike ?l_Ready_unlike ?q_Ready_unlike ?k_Ready_unlike ?a_Live_unlike ?i_Live_unlike ?l_Live_unlike ?q_Live_unlike ?k_Live_unlike ?a__law_caught ?l__law_caught ?q__law_caught ?k__law_caught ?a__law_whole ?l__law_whole ?q__law_whole ?k__law_whole ?a__law_deed ?l__law_deed ?q__law_deed ?k__law_deed ?a__law_draws ?l__law_draws ?q__law_draws ?k__law_draws ?a__law_row ?l__law_row ?q__law_row ?k__law_row ?a__law_firsts ?l__law_firsts ?q__law_firsts ?k__law_firsts ?a__law_window_right ?l__law_window_right ?q__law_window_right ?k__law_window_right ?a_law ?l_law ?q_law ?k_law ?x_NoPlace ?k_NoPlace ?x_NoWindow ?k_NoWindow ?b_NoPlace ?t_NoPlace ?h_NoPlace ?b_NoWindow ?t_NoWindow ?h_NoWindow ?b_RowError ?t_RowError ?h_RowError ?s_NoPlace_RowError ?q_NoPlace_NoPlace ?q_NoPlace_NoWindow ?q_NoPlace_NoCommand ?q_NoPlace_NoNeeds ?q_NoPlace_NoRow ?q_NoPlace_NoTable ?q_NoPlace_ValueError ?Ehg_NoPlace ?Ehk_NoPlace ?Eha_NoPlace ?Ehm_NoPlace ?s_NoWindow_RowError ?q_NoWindow_NoPlace ?q_NoWindow_NoWindow ?q_NoWindow_NoCommand ?q_NoWindow_NoNeeds ?q_NoWindow_NoRow ?q_NoWindow_NoTable ?q_NoWindow_ValueError ?Ehg_NoWindow ?Ehk_NoWindow ?Eha_NoWindow ?Ehm_NoWindow ?Ehn ?Eht ?z_ValueError ?z_abs ?z_bool ?z_enumerate ?z_int ?z_isinstance ?z_len ?z_list ?z_min ?z_range
    (case aC_Live => k_is)
    (case pg_Live => k_is)
    (case hd_Live => k_is)
    (case po_Live => k_is)
    (case sa_Live => k_is)
    (case mk_Live => k_is)
    (case kc_Live => k_is)
    (case n_Live_numbers => k_is)
    (case n_Live_changes => k_is)
    (case n_Live_made => k_is)
    (case aC_NoPlace => k_is)
    (case aC_Ready => k_is)
    (case pg_Ready => k_is)
    (case hd_Ready => k_is)
    (case po_Ready => k_is)
    (case sa_Ready => k_is)
    (case mk_Ready => k_is)
    (case kc_Ready => k_is)
    (case n_Ready_many => k_is)
    (case n_Ready_lasts => k_is)
    (case n_Ready_nexts => k_is)
    (case aC_NoWindow => k_is)
    (case aC_RowError => k_is)
    (case aC_NoCommand => k_is)
    (case aC_NoNeeds => k_is)
    (case aC_NoRow => k_is)
    (case aC_NoTable => k_is)
    (case a_Live___init__ => k_is)
    (case i_Live___init__ => k_is)
    (case l_Live___init__ => k_is)
    (case q_Live___init__ => k_is)
    (case k_Live___init__ => k_is)
    (case a_Live_row => k_is)
    (case i_Live_row => k_is)
    (case l_Live_row => k_is)
    (case q_Live_row => k_is)
    (case k_Live_row => k_is)
    (case a_Live_laid => k_is)
    (case i_Live_laid => k_is)
    (case l_Live_laid => k_is)
    (case q_Live_laid => k_is)
    (case k_Live_laid => k_is)
    (case a_Live_undo => k_is)
    (case i_Live_undo => k_is)
    (case l_Live_undo => k_is)
    (case q_Live_undo => k_is)
    (case k_Live_undo => k_is)
    (case a__law_number => k_is)
    (case l__law_number => k_is)
    (case q__law_number => k_is)
    (case k__law_number => k_is)
    (case a__law_take => k_is)
    (case l__law_take => k_is)
    (case q__law_take => k_is)
    (case k__law_take => k_is)
    (case a__law_any => k_is)
    (case l__law_any => k_is)
    (case q__law_any => k_is)
    (case k__law_any => k_is)
    (case a__law_deep => k_is)
    (case l__law_deep => k_is)
    (case q__law_deep => k_is)
    (case k__law_deep => k_is)
    (case a__law_bad_place => k_is)
    (case l__law_bad_place => k_is)
    (case q__law_bad_place => k_is)
    (case k__law_bad_place => k_is)
    (case a__law_bad_window => k_is)
    (case l__law_bad_window => k_is)
    (case q__law_bad_window => k_is)
    (case k__law_bad_window => k_is)
    (case a_Live_need_place => k_is)
    (case i_Live_need_place => k_is)
    (case l_Live_need_place => k_is)
    (case q_Live_need_place => k_is)
    (case k_Live_need_place => k_is)
    (case a_Live_noted => k_is)
    (case i_Live_noted => k_is)
    (case l_Live_noted => k_is)
    (case q_Live_noted => k_is)
    (case k_Live_noted => k_is)
    (case a_Live_change => k_is)
    (case i_Live_change => k_is)
    (case l_Live_change => k_is)
    (case q_Live_change => k_is)
    (case k_Live_change => k_is)
    (case a_last_places => k_is)
    (case l_last_places => k_is)
    (case q_last_places => k_is)
    (case k_last_places => k_is)
    (case a_next_places => k_is)
    (case l_next_places => k_is)
    (case q_next_places => k_is)
    (case k_next_places => k_is)
    (case a_Ready___init__ => k_is)
    (case i_Ready___init__ => k_is)
    (case l_Ready___init__ => k_is)
    (case q_Ready___init__ => k_is)
    (case k_Ready___init__ => k_is)
    (case a_Live_ready => k_is)
    (case i_Live_ready => k_is)
    (case l_Live_ready => k_is)
    (case q_Live_ready => k_is)
    (case k_Live_ready => k_is)
    (case a_is_whole => k_is)
    (case l_is_whole => k_is)
    (case q_is_whole => k_is)
    (case k_is_whole => k_is)
    (case a_Ready_need_place => k_is)
    (case i_Ready_need_place => k_is)
    (case l_Ready_need_place => k_is)
    (case q_Ready_need_place => k_is)
    (case k_Ready_need_place => k_is)
    (case a_Ready_need_window => k_is)
    (case i_Ready_need_window => k_is)
    (case l_Ready_need_window => k_is)
    (case q_Ready_need_window => k_is)
    (case k_Ready_need_window => k_is)
    (case a_Ready_firsts => k_is)
    (case i_Ready_firsts => k_is)
    (case l_Ready_firsts => k_is)
    (case q_Ready_firsts => k_is)
    (case k_Ready_firsts => k_is)
    (case a_Live_firsts => k_is)
    (case i_Live_firsts => k_is)
    (case l_Live_firsts => k_is)
    (case q_Live_firsts => k_is)
    (case k_Live_firsts => k_is)
    (case a_Live_put => k_is)
    (case i_Live_put => k_is)
    (case l_Live_put => k_is)
    (case q_Live_put => k_is)
    (case k_Live_put => k_is)
    (case a_Live_take => k_is)
    (case i_Live_take => k_is)
    (case l_Live_take => k_is)
    (case q_Live_take => k_is)
    (case k_Live_take => k_is)
    (case a_Ready_unlike => k_is)
    (case i_Ready_unlike => k_is)
    (case l_Ready_unlike => k_is)
    (case q_Ready_unlike => k_is)
    (case k_Ready_unlike => k_is)
    (case a_Live_unlike => k_is)
    (case i_Live_unlike => k_is)
    (case l_Live_unlike => k_is)
    (case q_Live_unlike => k_is)
    (case k_Live_unlike => k_is)
    (case a__law_caught => k_is)
    (case l__law_caught => k_is)
    (case q__law_caught => k_is)
    (case k__law_caught => k_is)
    (case a__law_whole => k_is)
    (case l__law_whole => k_is)
    (case q__law_whole => k_is)
    (case k__law_whole => k_is)
    (case a__law_deed => k_is)
    (case l__law_deed => k_is)
    (case q__law_deed => k_is)
    (case k__law_deed => k_is)
    (case a__law_draws => k_is)
    (case l__law_draws => k_is)
    (case q__law_draws => k_is)
    (case k__law_draws => k_is)
    (case a__law_row => k_is)
    (case l__law_row => k_is)
    (case q__law_row => k_is)
    (case k__law_row => k_is)
    (case a__law_firsts => k_is)
    (case l__law_firsts => k_is)
    (case q__law_firsts => k_is)
    (case k__law_firsts => k_is)
    (case a__law_window_right => k_is)
    (case l__law_window_right => k_is)
    (case q__law_window_right => k_is)
    (case k__law_window_right => k_is)
    (case a_law => k_is)
    (case l_law => k_is)
    (case q_law => k_is)
    (case k_law => k_is)
    (case x_NoPlace => k_exc)
    (case k_NoPlace => k_is)
    (case x_NoWindow => k_exc)
    (case k_NoWindow => k_is)
    (case b_NoPlace => k_is)
    (case t_NoPlace => k_is)
    (case h_NoPlace => k_is)
    (case b_NoWindow => k_is)
    (case t_NoWindow => k_is)
    (case h_NoWindow => k_is)
    (case b_RowError => k_is)
    (case t_RowError => k_is)
    (case h_RowError => k_is)
    (case s_NoPlace_RowError => k_is)
    (case q_NoPlace_NoPlace => kit_is)
    (case q_NoPlace_NoWindow => kit_is)
    (case q_NoPlace_NoCommand => kit_is)
    (case q_NoPlace_NoNeeds => kit_is)
    (case q_NoPlace_NoRow => kit_is)
    (case q_NoPlace_NoTable => kit_is)
    (case q_NoPlace_ValueError => kit_is)
    (case Ehg_NoPlace => k_is)
    (case Ehk_NoPlace => k_is)
    (case Eha_NoPlace => k_is)
    (case Ehm_NoPlace => k_is)
    (case s_NoWindow_RowError => k_is)
    (case q_NoWindow_NoPlace => kit_is)
    (case q_NoWindow_NoWindow => kit_is)
    (case q_NoWindow_NoCommand => kit_is)
    (case q_NoWindow_NoNeeds => kit_is)
    (case q_NoWindow_NoRow => kit_is)
    (case q_NoWindow_NoTable => kit_is)
    (case q_NoWindow_ValueError => kit_is)
    (case Ehg_NoWindow => k_is)
    (case Ehk_NoWindow => k_is)
    (case Eha_NoWindow => k_is)
    (case Ehm_NoWindow => k_is)
    (case Ehn => k_is)
    (case Eht => k_is)
    (case z_ValueError => k_is)
    (case z_abs => k_is)
    (case z_bool => k_is)
    (case z_enumerate => k_is)
    (case z_int => k_is)
    (case z_isinstance => k_is)
    (case z_len => k_is)
    (case z_list => k_is)
    (case z_min => k_is)
    (case z_range => k_is)
