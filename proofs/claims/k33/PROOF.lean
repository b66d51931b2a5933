import PyProof.Rows.All
import Wide.All
import OpenK.AllK
import Wide.FinOn
import PyProof.EqAt
import PyProof.EqKinds
import PyProof.TupleCall
import PyProof.WalksEnum
import KE.KItemsList
import KE.KDictZip
import KE.KDictItemsList
import KE.KCallChange
import KE.KCallJoin
import HandS.ForMost
import HandS.Walk
import HandS.Evl
import HandS.IsInst
import HandS.SortInts
import HandS.Exc
import HandS.TryOnly
import HandS.ExcOwn
import HandS.WordsExc
import HandS.Zip
import HandS.Rev
import HandS.SetKeys
import HandS.Style
import HandS.Conv
import HandS.ExcIs
import HandS.SetFor
import HandS.Set
import HandS.More
import HandS.Wide
import KE.DataMinMax
import PySem.Challenge.RW_unlikerow_k33_tables_spoilt
set_option Elab.async false
set_option linter.all false
set_option maxRecDepth 100000
set_option maxHeartbeats 4000000
/-! list(enumerate(l)), l a list: a new list of new pairs -/
namespace UrE
open PySem PySem.W PySem.Calls PyProof.Rows
open Sem (wp)
theorem enum_no_len : typeLookup (.type "enumerate") "__len__" = pure none := by rw [typeLookup_type, builtinLookup_eq_fast]; kernel_rfl
theorem enum_no_hint : typeLookup (.type "enumerate") "__length_hint__" = pure none := by rw [typeLookup_type, builtinLookup_eq_fast]; kernel_rfl
/-- the enumerate object at e between two turns, the tuples handed out still alive: f the first two fields -/
def Out (h : Heap) (e it S : Addr) (i : Nat) : Prop := ∃ (f0 f1 old : Value), h.get? e = some { cls := .type "enumerate", dict := none, data := .fields #[f0, f1, .ref it, rawInt i, .none, old], slots := #[] } ∧
  ((f0 = .none) ∨ ∃ (a : Addr) (b : Bool) (oa : Obj), f0 = rawInt a ∧ f1 = .bool b ∧ h.get? a = some oa ∧ a ≠ e ∧ a ≠ it ∧ a ≠ S)
section
variable {prog : Program} {w : World} {A : Around} {E : Value → Shared → Prop} {s : Shared}
theorem out_item {e it l S : Addr} {i : Nat} {items : Array Value} {x : Value} {Q : Option Value → Shared → Prop}
    (ho : Out s.heap e it S i) (hit : s.heap.IsListIter it l i) (hl : s.heap.IsList l items) (hx : items[i]? = some x) (hne : e ≠ it) (hSl : S < s.heap.objs.size)
    (hQ : ∀ h' tk, Out h' e it S (i + 1) → h'.IsListIter it l (i + 1) →
      (∃ t, h'.get? s.heap.objs.size = some { cls := .type "tuple", data := .seq #[.int i t, x] }) → h'.objs.size = s.heap.objs.size + 1 →
      (∀ b o, b ≠ e → b ≠ it → s.heap.get? b = some o → h'.get? b = some o) → Q (some (.ref s.heap.objs.size)) { s with heap := h', toks := tk }) :
    wpAny (model prog w) A (pyNext (.ref e)) Q E s := by
  obtain ⟨f0, f1, old, he, hf⟩ := ho
  rcases hf with rfl | ⟨a, b, oa, rfl, rfl, ha, hae, hai, haS⟩
  · have hT : s.TypeIs (.ref e) "enumerate" := ⟨_, he, rfl⟩
    unfold pyNext
    refine wpAny_bind (wpAny_attempt (wpAny_callSpecial?_slot (name := Str.ofString "__next__") hT PySem.F.slot_enumerate_next
      (wpAny_call_entry PySem.F.slot_enumerate_next hT PySem.F.entry_enumerate_next ?_ (PySem.F.args_enumerate_next_1 _))))
    obtain ⟨hp, g, d, tk, os⟩ := s
    show wpAny _ _ (field (.ref e) 2 >>= _) _ _ _
    refine wpAny_bind (wpAny_field he rfl (x := .ref it) rfl ?_)
    refine wpAny_bind (wpAny_nextOf_list_item hit hl hx fun h₁ hit₁ hs₁ => ?_)
    replace hs₁ : Heap.SameBut it hp h₁ := hs₁
    have he₁ := (hs₁.2 e hne).trans he
    show wpAny _ _ (field (.ref e) 3 >>= _) _ _ ⟨h₁, g, d, tk, os⟩
    refine wpAny_bind (wpAny_field he₁ rfl (x := rawInt i) rfl ?_)
    show wpAny _ _ (field (.ref e) 4 >>= _) _ _ ⟨h₁, g, d, tk, os⟩
    refine wpAny_bind (wpAny_field he₁ rfl (x := .none) rfl ?_)
    show wpAny _ _ (mkInt i >>= _) _ _ ⟨h₁, g, d, tk, os⟩
    refine wpAny_bind (wpAny_mkInt ?_)
    show wpAny _ _ (setField (.ref e) 3 (rawInt ((i : Int) + 1)) >>= _) _ _ ⟨h₁, g, d, tk + 1, os⟩
    refine wpAny_bind (wpAny_setField_rec he₁ (by simp) fun h₂ he₂ hs₂ => ?_)
    replace hs₂ : Heap.SameBut e h₁ h₂ := hs₂
    simp only [Array.set!, rawInt] at he₂
    show wpAny _ _ (setField (.ref e) 4 .none >>= _) _ _ ⟨h₂, g, d, tk + 1, os⟩
    refine wpAny_bind (wpAny_setField_rec he₂ (by simp) fun h₃ he₃ hs₃ => ?_)
    replace hs₃ : Heap.SameBut e h₂ h₃ := hs₃
    show wpAny _ _ (newTuple [.int i tk, x] >>= _) _ _ ⟨h₃, g, d, tk + 1, os⟩
    refine wpAny_bind (wpAny_newTuple ?_)
    have he₄ := Heap.get?_push_of_some { cls := .type "tuple", data := .seq #[.int i tk, x] } he₃
    have hel : e < hp.objs.size := Heap.lt_size he
    have hsz : h₃.objs.size = hp.objs.size := by rw [hs₃.1, hs₂.1, hs₁.1]
    generalize hh₄ : h₃.push { cls := .type "tuple", data := .seq #[.int i tk, x] } = h₄ at he₄
    have ht₄ : h₄.get? hp.objs.size = some { cls := .type "tuple", data := .seq #[.int i tk, x] } := by rw [← hh₄, ← hsz]; exact Heap.get?_push_size _ rfl
    have hz₄ : h₄.objs.size = hp.objs.size + 1 := by rw [← hh₄, Heap.size_push, hsz]
    have hk₄ : ∀ b o, b ≠ e → b ≠ it → hp.get? b = some o → h₄.get? b = some o := fun b o hbe hbi hb => by
      rw [← hh₄]; exact Heap.get?_push_of_some _ (hs₃.extBut b o hbe (hs₂.extBut b o hbe (hs₁.extBut b o hbi hb)))
    have hit₄ : h₄.IsListIter it l (i + 1) := by
      rw [← hh₄]; obtain ⟨o, ho, r⟩ := (hit₁.extBut hs₂.extBut (Ne.symm hne)).extBut hs₃.extBut (Ne.symm hne); exact ⟨o, Heap.get?_push_of_some _ ho, r⟩
    show wpAny _ _ (Builtin.SmallTypes.ownedTupleIsFree (.ref e) >>= _) _ _ ⟨h₄, g, d, tk + 1, os⟩
    rw [hsz]
    refine wpAny_bind ?_
    unfold Builtin.SmallTypes.ownedTupleIsFree
    refine wpAny_bind (wpAny_field he₄ rfl (x := .none) rfl (wpAny_pure ?_))
    simp only [if_true]
    refine wpAny_bind (wpAny_rule ?_)
    refine wpAny_bind (wpAny_field he₄ rfl (x := old) rfl ?_)
    refine wpAny_bind (wpAny_setField_rec he₄ (by simp) fun h₅ he₅ hs₅ => ?_)
    replace hs₅ : Heap.SameBut e h₄ h₅ := hs₅
    show wpAny _ _ (Builtin.SmallTypes.ownedTupleHandOut (.ref e) (.ref hp.objs.size) >>= _) _ _ ⟨h₅, g, d, tk + 1, os⟩
    refine wpAny_bind ?_
    unfold Builtin.SmallTypes.ownedTupleHandOut
    refine wpAny_bind (wpAny_setField_rec he₅ (by simp) fun h₆ he₆ hs₆ => ?_)
    replace hs₆ : Heap.SameBut e h₅ h₆ := hs₆
    refine wpAny_setField_rec he₆ (by simp) fun h₇ he₇ hs₇ => ?_
    replace hs₇ : Heap.SameBut e h₆ h₇ := hs₇
    have t7 : h₇.get? hp.objs.size = some { cls := .type "tuple", data := .seq #[.int i tk, x] } := hs₇.extBut _ _ (Nat.ne_of_gt hel) (hs₆.extBut _ _ (Nat.ne_of_gt hel) (hs₅.extBut _ _ (Nat.ne_of_gt hel) ht₄))
    have hil : it < hp.objs.size := by obtain ⟨o, z, _⟩ := hit; exact Heap.lt_size z
    refine wpAny_bind (wpAny_letGo (wpAny_pure ⟨_, rfl, wpAny_pure (hQ h₇ (tk + 1) ⟨rawInt hp.objs.size, .bool false, x, ?_, Or.inr ⟨hp.objs.size, false, _, rfl, rfl, t7, Nat.ne_of_gt hel, Nat.ne_of_gt hil, Nat.ne_of_gt hSl⟩⟩ ?_ ⟨tk, t7⟩ ?_ ?_)⟩))
    · simpa [rawInt, Array.set!] using he₇
    · exact ((hit₄.extBut hs₅.extBut (Ne.symm hne)).extBut hs₆.extBut (Ne.symm hne)).extBut hs₇.extBut (Ne.symm hne)
    · rw [hs₇.1, hs₆.1, hs₅.1, hz₄]
    · exact fun b o hbe hbi hb => hs₇.extBut b o hbe (hs₆.extBut b o hbe (hs₅.extBut b o hbe (hk₄ b o hbe hbi hb)))
  · have hT : s.TypeIs (.ref e) "enumerate" := ⟨_, he, rfl⟩
    unfold pyNext
    refine wpAny_bind (wpAny_attempt (wpAny_callSpecial?_slot (name := Str.ofString "__next__") hT PySem.F.slot_enumerate_next
      (wpAny_call_entry PySem.F.slot_enumerate_next hT PySem.F.entry_enumerate_next ?_ (PySem.F.args_enumerate_next_1 _))))
    obtain ⟨hp, g, d, tk, os⟩ := s
    show wpAny _ _ (field (.ref e) 2 >>= _) _ _ _
    refine wpAny_bind (wpAny_field he rfl (x := .ref it) rfl ?_)
    refine wpAny_bind (wpAny_nextOf_list_item hit hl hx fun h₁ hit₁ hs₁ => ?_)
    replace hs₁ : Heap.SameBut it hp h₁ := hs₁
    have he₁ := (hs₁.2 e hne).trans he
    show wpAny _ _ (field (.ref e) 3 >>= _) _ _ ⟨h₁, g, d, tk, os⟩
    refine wpAny_bind (wpAny_field he₁ rfl (x := rawInt i) rfl ?_)
    show wpAny _ _ (field (.ref e) 4 >>= _) _ _ ⟨h₁, g, d, tk, os⟩
    refine wpAny_bind (wpAny_field he₁ rfl (x := .none) rfl ?_)
    show wpAny _ _ (mkInt i >>= _) _ _ ⟨h₁, g, d, tk, os⟩
    refine wpAny_bind (wpAny_mkInt ?_)
    show wpAny _ _ (setField (.ref e) 3 (rawInt ((i : Int) + 1)) >>= _) _ _ ⟨h₁, g, d, tk + 1, os⟩
    refine wpAny_bind (wpAny_setField_rec he₁ (by simp) fun h₂ he₂ hs₂ => ?_)
    replace hs₂ : Heap.SameBut e h₁ h₂ := hs₂
    simp only [Array.set!, rawInt] at he₂
    show wpAny _ _ (setField (.ref e) 4 .none >>= _) _ _ ⟨h₂, g, d, tk + 1, os⟩
    refine wpAny_bind (wpAny_setField_rec he₂ (by simp) fun h₃ he₃ hs₃ => ?_)
    replace hs₃ : Heap.SameBut e h₂ h₃ := hs₃
    show wpAny _ _ (newTuple [.int i tk, x] >>= _) _ _ ⟨h₃, g, d, tk + 1, os⟩
    refine wpAny_bind (wpAny_newTuple ?_)
    have he₄ := Heap.get?_push_of_some { cls := .type "tuple", data := .seq #[.int i tk, x] } he₃
    have hel : e < hp.objs.size := Heap.lt_size he
    have hsz : h₃.objs.size = hp.objs.size := by rw [hs₃.1, hs₂.1, hs₁.1]
    generalize hh₄ : h₃.push { cls := .type "tuple", data := .seq #[.int i tk, x] } = h₄ at he₄
    have ht₄ : h₄.get? hp.objs.size = some { cls := .type "tuple", data := .seq #[.int i tk, x] } := by rw [← hh₄, ← hsz]; exact Heap.get?_push_size _ rfl
    have hz₄ : h₄.objs.size = hp.objs.size + 1 := by rw [← hh₄, Heap.size_push, hsz]
    have hk₄ : ∀ b o, b ≠ e → b ≠ it → hp.get? b = some o → h₄.get? b = some o := fun b o hbe hbi hb => by
      rw [← hh₄]; exact Heap.get?_push_of_some _ (hs₃.extBut b o hbe (hs₂.extBut b o hbe (hs₁.extBut b o hbi hb)))
    have hit₄ : h₄.IsListIter it l (i + 1) := by
      rw [← hh₄]; obtain ⟨o, ho, r⟩ := (hit₁.extBut hs₂.extBut (Ne.symm hne)).extBut hs₃.extBut (Ne.symm hne); exact ⟨o, Heap.get?_push_of_some _ ho, r⟩
    have ha₄ := hk₄ a oa hae hai ha
    have hil : it < hp.objs.size := by obtain ⟨o, z, _⟩ := hit; exact Heap.lt_size z
    show wpAny _ _ (Builtin.SmallTypes.ownedTupleIsFree (.ref e) >>= _) _ _ ⟨h₄, g, d, tk + 1, os⟩
    rw [hsz]
    refine wpAny_bind ?_
    unfold Builtin.SmallTypes.ownedTupleIsFree
    refine wpAny_bind (wpAny_field he₄ rfl (x := rawInt a) rfl ?_)
    show wpAny _ _ (loadIfAlive a >>= _) _ _ _
    refine wpAny_bind (kdx_alive ha₄ ?_)
    show wpAny _ _ (field (.ref e) 1 >>= _) _ _ _
    refine wpAny_bind (wpAny_field he₄ rfl (x := .bool b) rfl ?_)
    refine wpAny_ite_split (fun _ => ?_) (fun hb => ?_)
    · refine wpAny_bind (wpAny_setField_rec he₄ (by simp) fun h₅ he₅ hs₅ => ?_)
      replace hs₅ : Heap.SameBut e h₄ h₅ := hs₅
      have t5 := hs₅.extBut _ _ (Nat.ne_of_gt hel) ht₄
      refine wpAny_pure ?_
      simp only [Bool.false_eq_true, if_false]
      refine wpAny_pure ⟨_, rfl, wpAny_pure (hQ h₅ (tk + 1) ⟨rawInt a, .bool true, old, ?_, Or.inr ⟨a, true, oa, rfl, rfl, hs₅.extBut _ _ hae ha₄, hae, hai, haS⟩⟩ (hit₄.extBut hs₅.extBut (Ne.symm hne)) ⟨tk, t5⟩ ?_ ?_)⟩
      · simpa [rawInt, Array.set!] using he₅
      · rw [hs₅.1, hz₄]
      · exact fun b o hbe hbi hb => hs₅.extBut b o hbe (hk₄ b o hbe hbi hb)
    · refine wpAny_pure ?_
      simp only [Bool.false_eq_true, if_false]
      refine wpAny_pure ⟨_, rfl, wpAny_pure (hQ h₄ (tk + 1) ⟨rawInt a, .bool b, old, ?_, Or.inr ⟨a, b, oa, rfl, rfl, ha₄, hae, hai, haS⟩⟩ hit₄ ⟨tk, ht₄⟩ hz₄ hk₄)⟩
      simpa [rawInt, Array.set!] using he₄
theorem out_end {e it l S : Addr} {i : Nat} {items : Array Value} {Q : Option Value → Shared → Prop} (hh : A.handled = none)
    (ho : Out s.heap e it S i) (hit : s.heap.IsListIter it l i) (hl : s.heap.IsList l items) (hx : items[i]? = none)
    (hQ : ∀ h', Heap.ExtBut it s.heap h' → Q none { s with heap := h' }) : wpAny (model prog w) A (pyNext (.ref e)) Q E s := by
  obtain ⟨f0, f1, old, he, _⟩ := ho
  have hT : s.TypeIs (.ref e) "enumerate" := ⟨_, he, rfl⟩
  unfold pyNext
  refine wpAny_bind (wpAny_attempt (wpAny_callSpecial?_slot (name := Str.ofString "__next__") hT PySem.F.slot_enumerate_next
    (wpAny_call_entry PySem.F.slot_enumerate_next hT PySem.F.entry_enumerate_next ?_ (PySem.F.args_enumerate_next_1 _))))
  show wpAny _ _ (field (.ref e) 2 >>= _) _ _ _
  refine wpAny_bind (wpAny_field he rfl (x := .ref it) rfl ?_)
  refine wpAny_bind (wpAny_nextOf_list_end hh hit hl hx fun h' x he' hx' => ?_)
  obtain ⟨o, ho, hc⟩ := hx'
  refine wpAny_bind (wpAny_isInstance (T := "StopIteration") (b := true) ⟨o, ho, hc⟩ isSubtype_stop ?_)
  exact wpAny_pure (hQ _ he')
end
end UrE
namespace UrE
open PySem PySem.W PySem.Calls PyProof.Rows
structure EnG (items : Array Value) (lo : Addr) (h : Heap) (as : List Addr) : Prop where
  rise : as.Pairwise (· < ·)
  above : ∀ a ∈ as, lo < a
  pairs : ∀ (j : Nat) (a : Addr), as[j]? = some a → ∃ t x, items[j]? = some x ∧ h.get? a = some { cls := .type "tuple", data := .seq #[.int j t, x] }
theorem EnG.there {items : Array Value} {lo : Addr} {h : Heap} {as : List Addr} (g : EnG items lo h as) {a : Addr} (ha : a ∈ as) : a < h.objs.size := by
  obtain ⟨j, hj⟩ := List.mem_iff_getElem?.mp ha
  obtain ⟨_, _, _, e⟩ := g.pairs j a hj
  exact Heap.lt_size e
section
variable {prog : Program} {w : World} {A : Around} {s : Shared} {R : Result → Shared → Prop} {items : Array Value}
theorem en_loop {S e it l : Addr} (hh : A.handled = none) (hei : e ≠ it) (hle : l ≠ e) (hli : l ≠ it) (heS : e < S) (hiS : it < S) (hlS : l ≠ S) (hn : items.size ≤ sizeLine) (res : Value) {h₁ : Heap}
    (hR : ∀ h' tk acc c as, (∀ b o, b ≠ S → b ≠ e → b ≠ it → h₁.get? b = some o → h'.get? b = some o) → h'.get? S = some { cls := .type "list", dict := none, data := .seq acc c, slots := #[] } → as.length = items.size → EnG items S h' as →
      acc.toList = as.map Value.ref → R (.ok (.ret res)) { s with heap := h', toks := tk }) :
    ∀ (k i : Nat) (h : Heap) (tk c : Nat) (acc : Array Value) (as : List Addr), items.size - i = k → i ≤ items.size → Out h e it S i → h.IsListIter it l i → h.IsList l items → (∀ b o, b ≠ S → b ≠ e → b ≠ it → h₁.get? b = some o → h.get? b = some o) →
      h.get? S = some { cls := .type "list", dict := none, data := .seq acc c, slots := #[] } → acc.toList = as.map Value.ref → as.length = i → EnG items S h as →
      codeAny (model prog w) A (.builtin "list.extend.loop" ⟨[.ref S, .ref e, res], []⟩) R { s with heap := h, toks := tk } := by
  intro k
  induction k with
  | zero =>
    intro i h tk c acc as hk hi hst hit hl hkeep hS hacc hal hG
    have hin : i = items.size := by omega
    refine codeAny_builtin PySem.F.entry_extend_loop ?_
    rw [Around.under_plainId PySem.F.plain_extend_loop _]
    show wpAny _ A.in1 (pyNext (.ref e) >>= _) _ _ _
    refine wpAny_bind (out_end (s := { s with heap := h, toks := tk }) (A := A.in1) hh hst hit hl (Array.getElem?_eq_none (by omega)) fun h' he => ?_)
    refine wpAny_pure (hR h' tk acc c as (fun b o h1 h2 h3 e => he b o h3 (hkeep b o h1 h2 h3 e)) (he S _ (Nat.ne_of_gt hiS) hS) (by omega) ⟨hG.rise, hG.above, fun j a hj => ?_⟩ hacc)
    obtain ⟨t, x, e2, e3⟩ := hG.pairs j a hj
    exact ⟨t, x, e2, he a _ (Nat.ne_of_gt (Nat.lt_trans hiS (hG.above a (List.mem_of_getElem? hj)))) e3⟩
  | succ k ih =>
    intro i h tk c acc as hk hi hst hit hl hkeep hS hacc hal hG
    have hlt : i < items.size := by omega
    have hsz : acc.size = i := by rw [← Array.length_toList, hacc, List.length_map, hal]
    refine codeAny_builtin PySem.F.entry_extend_loop ?_
    rw [Around.under_plainId PySem.F.plain_extend_loop _]
    show wpAny _ A.in1 (pyNext (.ref e) >>= _) _ _ _
    refine wpAny_bind (out_item (s := { s with heap := h, toks := tk }) hst hit hl (Array.getElem?_eq_getElem hlt) hei (Heap.lt_size hS) fun h' tk' hst' hit' ht hz hkp => ?_)
    dsimp only at ht hz hkp ⊢
    obtain ⟨t, ht⟩ := ht
    have hSl : S < h.objs.size := Heap.lt_size hS
    have hS' := hkp S _ (Nat.ne_of_gt heS) (Nat.ne_of_gt hiS) hS
    have up : ∀ b o, b ≠ S → h'.get? b = some o → (h'.update S (Obj.mapSeq (·.push (Value.ref h.objs.size)))).get? b = some o := fun b o hb e => (Heap.get?_update_other _ _ (Ne.symm hb)).trans e
    have upI : ∀ (h2 : Heap), (∀ b o, b ≠ S → h'.get? b = some o → h2.get? b = some o) → Out h2 e it S (i + 1) := fun h2 k2 => by
      obtain ⟨f0, f1, old, e1, hf⟩ := hst'
      refine ⟨f0, f1, old, k2 _ _ (Nat.ne_of_lt heS) e1, ?_⟩
      rcases hf with z | ⟨a, b, oa, z1, z2, z3, z4, z5, z6⟩
      · exact Or.inl z
      · exact Or.inr ⟨a, b, oa, z1, z2, k2 a oa z6 z3, z4, z5, z6⟩
    show wpAny _ A.in1 (updateSeq S (·.push (Value.ref h.objs.size)) >>= _) _ _ _
    refine wpAny_bind ?_
    refine wpAny_updateSeq hS' rfl (wpAny_pure ⟨plainId_quiet PySem.F.plain_extend_loop _, ih (i + 1) _ tk' _ (acc.push (Value.ref h.objs.size)) (as ++ [h.objs.size]) (by omega) hlt (upI _ up)
      (hit'.at fun o z => up it o (Nat.ne_of_lt hiS) z) ((hl.at fun o z => hkp l o hle hli z).at fun o z => up l o hlS z)
      (fun b o h1 h2 h3 z => up b o h1 (hkp b o h2 h3 (hkeep b o h1 h2 h3 z))) (Heap.get?_update_self _ hS' rfl) (by rw [Array.toList_push, hacc, List.map_append]; rfl) (by rw [List.length_append, hal]; rfl) ⟨?_, ?_, ?_⟩⟩) (by rw [hsz]; omega) (by show (acc.push (Value.ref h.objs.size)).size ≤ sizeLine + 1; rw [Array.size_push, hsz]; omega)
    · refine List.pairwise_append.mpr ⟨hG.rise, List.pairwise_singleton _ _, fun a ha b hb => ?_⟩
      rw [List.mem_singleton.mp hb]
      exact hG.there ha
    · intro a ha
      rcases List.mem_append.mp ha with ha | ha
      · exact hG.above a ha
      · rw [List.mem_singleton.mp ha]; exact hSl
    · intro j b hj
      rcases Nat.lt_trichotomy j as.length with h1 | h1 | h1
      · rw [List.getElem?_append_left h1] at hj
        obtain ⟨t3, x3, e2, e3⟩ := hG.pairs j b hj
        have hb := hG.above b (List.mem_of_getElem? hj)
        exact ⟨t3, x3, e2, up b _ (Nat.ne_of_gt hb) (hkp b _ (Nat.ne_of_gt (Nat.lt_trans heS hb)) (Nat.ne_of_gt (Nat.lt_trans hiS hb)) e3)⟩
      · subst h1
        have hb : h.objs.size = b := by simpa using hj
        subst hb
        subst hal
        exact ⟨t, _, Array.getElem?_eq_getElem hlt, up _ _ (Nat.ne_of_gt hSl) ht⟩
      · have hnone : (as ++ [h.objs.size])[j]? = none := List.getElem?_eq_none (by rw [List.length_append, List.length_singleton]; omega)
        rw [hnone] at hj; cases hj
end
section
variable {prog : Program} {w : World} {A : Around} {E : Value → Shared → Prop} {s : Shared} {items : Array Value} {e it l : Addr}
theorem en_extend {R : Result → Shared → Prop} (hh : A.handled = none) (he : IsEnum s.heap e it 0 .none) (hit : s.heap.IsListIter it l 0) (hl : s.heap.IsList l items) (hei : e ≠ it) (hle : l ≠ e) (hli : l ≠ it) (S : Addr) (heS : e < S) (hiS : it < S) (hlS : l ≠ S) (res : Value) (c₀ : Nat) (hS : s.heap.get? S = some { cls := .type "list", data := .seq #[] c₀ })
    (hR : ∀ h' tk acc c as, (∀ b o, b ≠ S → b ≠ e → b ≠ it → s.heap.get? b = some o → h'.get? b = some o) → h'.get? S = some { cls := .type "list", dict := none, data := .seq acc c, slots := #[] } → as.length = items.size → EnG items S h' as →
      acc.toList = as.map Value.ref → R (.ok (.ret res)) { s with heap := h', toks := tk }) (hn : items.size ≤ sizeLine) :
    wpAny (model prog w) A.in1 (Builtin.List.listExtendWith (.ref S) (.ref e) res)
      (fun fin s' => match fin with | .done f => R (.ok f) s' | .again c' => c'.quiet = true ∧ codeAny (model prog w) A c' R s') (fun e s' => R (.error e) s') s := by
  have hT : ∀ (h : Heap) (g : Shared), g.heap = h → IsEnum h e it 0 .none → g.TypeIs (.ref e) "enumerate" := fun h g e1 e2 => by
    subst e1
    exact ⟨_, e2, rfl⟩
  unfold Builtin.List.listExtendWith
  refine wpAny_bind (wpAny_typeOf (T := "enumerate") (hT _ _ rfl he) ?_)
  have h1 : Builtin.List.listSameRef (.ref S) (.ref e) = false := by simp [Builtin.List.listSameRef, Nat.ne_of_gt heS]
  have h2 : (Value.type "enumerate" == Value.type "list") = false := by decide
  have h3 : (Value.type "enumerate" == Value.type "tuple") = false := by decide
  simp only [h1, h2, h3, Bool.or_false, Bool.false_eq_true, if_false]
  refine wpAny_bind (wpAny_pyIter_enum he ?_)
  refine wpAny_bind (wpAny_holding ?_)
  unfold Builtin.List.listLengthHint
  refine wpAny_bind (wpAny_specialOf (hT _ _ rfl he) enum_no_len ?_)
  show wpAny _ _ (specialOf (Value.ref e) (Str.ofString "__length_hint__") >>= _) _ _ _
  refine wpAny_bind (wpAny_specialOf (hT _ _ rfl he) enum_no_hint ?_)
  refine wpAny_pure ?_
  show wpAny _ _ (rule "list.extend.makes-room" >>= fun _ => Builtin.List.listTouch (.ref S) >>= fun _ =>
    again (.builtin "list.extend.loop" ⟨[.ref S, .ref e, res], []⟩)) _ _ _
  refine wpAny_bind (wpAny_rule ?_)
  refine wpAny_bind ?_
  show wpAny _ _ (updateSeq S (·.push .none) >>= fun _ => updateSeq S (·.pop)) _ _ _
  refine wpAny_bind (wpAny_updateSeq hS rfl ?_)
  have hS₂ := Heap.get?_update_self (Obj.mapSeq (·.push Value.none)) hS rfl
  refine wpAny_updateSeq (hz := by seq_fits) hS₂ rfl ?_
  have hS₃ := Heap.get?_update_self (Obj.mapSeq (·.pop)) hS₂ rfl
  have oth : ∀ b o, b ≠ S → s.heap.get? b = some o → ((s.heap.update S (Obj.mapSeq (·.push Value.none))).update S (Obj.mapSeq (·.pop))).get? b = some o :=
    fun b o hb e => (Heap.get?_update_other _ _ (Ne.symm hb)).trans ((Heap.get?_update_other _ _ (Ne.symm hb)).trans e)
  refine wpAny_pure ⟨plainId_quiet PySem.F.plain_extend_loop _, ?_⟩
  exact en_loop (s := s) (h₁ := s.heap) hh hei hle hli heS hiS hlS hn res hR items.size 0 _ _ _ #[] [] (Nat.sub_zero _) (Nat.zero_le _) ⟨.none, .bool false, .none, oth e _ (Nat.ne_of_lt heS) he, Or.inl rfl⟩
    (hit.at fun o z => oth it o (Nat.ne_of_lt hiS) z) (hl.at fun o z => oth l o hlS z) (fun b o hb _ _ z => oth b o hb z) hS₃ rfl rfl ⟨List.Pairwise.nil, (fun _ ha => nomatch ha), (fun j a hj => by simp at hj)⟩
theorem en_call {Q : Value → Shared → Prop} (hh : A.handled = none) (he : IsEnum s.heap e it 0 .none) (hit : s.heap.IsListIter it l 0) (hl : s.heap.IsList l items) (hei : e ≠ it) (hle : l ≠ e) (hli : l ≠ it) (hn : items.size ≤ sizeLine)
    (hQ : ∀ h' tk acc c as, (∀ b o, b ≠ e → b ≠ it → s.heap.get? b = some o → h'.get? b = some o) → h'.get? s.heap.objs.size = some { cls := .type "list", dict := none, data := .seq acc c, slots := #[] } → as.length = items.size → EnG items s.heap.objs.size h' as →
      acc.toList = as.map Value.ref → Q (.ref s.heap.objs.size) { s with heap := h', toks := tk }) :
    wpAny (model prog w) A (call (.type "list") [.ref e]) Q E s := by
  refine callType_codes (Q₁ := fun obj s₁ => obj = .ref s.heap.objs.size ∧ s₁ = { s with heap := s.heap.push { cls := .type "list", data := .seq #[] } }) PySem.F.called_list (PySem.F.typeCall_list_1 _) PySem.F.entry_list_init
    (code_list_new _ ⟨rfl, rfl⟩) fun obj s₁ h₁ => ?_
  obtain ⟨rfl, rfl⟩ := h₁
  have hS : (s.heap.push { cls := .type "list", data := .seq #[] }).get? s.heap.objs.size = some { cls := .type "list", data := .seq #[] } := Heap.get?_push_size _ rfl
  have hel : e < s.heap.objs.size := Heap.lt_size he
  have hil : it < s.heap.objs.size := let ⟨_, z, _⟩ := hit; Heap.lt_size z
  have hll : l < s.heap.objs.size := let ⟨_, z, _⟩ := hl; Heap.lt_size z
  refine ⟨⟨_, hS, rfl⟩, PySem.F.args_list_init_2 _ _, ?_⟩
  show wpAny _ _ (do let old ← Builtin.List.listItems (.ref s.heap.objs.size); Builtin.List.listUpdate (.ref s.heap.objs.size) (fun _ => #[]); letGo old.toList.reverse; Builtin.List.listExtendWith (.ref s.heap.objs.size) (.ref e) .none) _ _ _
  refine wpAny_bind ?_
  unfold Builtin.List.listItems
  refine wpAny_bind (wpAny_seqItems hS rfl (wpAny_pure ?_))
  show wpAny _ _ (updateSeq s.heap.objs.size (fun _ => #[]) >>= fun _ => letGo (#[] : Array Value).toList.reverse >>= fun _ => Builtin.List.listExtendWith (.ref s.heap.objs.size) (.ref e) .none) _ _ _
  refine wpAny_bind (wpAny_updateSeq hS rfl ?_)
  have hS₂ := Heap.get?_update_self (Obj.mapSeq (fun _ => (#[] : Array Value))) hS rfl
  have oth : ∀ b o, s.heap.get? b = some o → ((s.heap.push { cls := .type "list", data := .seq #[] }).update s.heap.objs.size (Obj.mapSeq (fun _ => (#[] : Array Value)))).get? b = some o :=
    fun b o z => (Heap.get?_update_other _ _ (Nat.ne_of_gt (Heap.lt_size z))).trans (Heap.get?_push_of_some _ z)
  refine wpAny_bind (wpAny_letGo ?_)
  refine en_extend (A := A.in1) hh (oth e _ he) (hit.at fun o z => oth it o z) (hl.at fun o z => oth l o z) hei hle hli _ hel hil (Nat.ne_of_lt hll) .none _ hS₂ (fun h' tk acc c as hk hS' hl2 hG hacc => ?_) hn
  exact ⟨rfl, hQ h' tk acc c as (fun b o h1 h2 z => hk b o (Nat.ne_of_lt (Heap.lt_size z)) h1 h2 (oth b o z)) hS' hl2 hG hacc⟩
end
end UrE
namespace UrE
open PySem PySem.Spec PyProof.Rows L2
/-- tuples tracked at their addresses -/
def putG : Hp → List Addr → List (List V) → Hp
  | H, a :: as, c :: cs => putG (upd H a (.tup c)) as cs
  | H, _, _ => H
theorem putG_off {b : Addr} : ∀ (as : List Addr) (cs : List (List V)) (H : Hp), b ∉ as → putG H as cs b = H b
  | [], _, _, _ => rfl
  | _ :: _, [], _, _ => rfl
  | a :: as, c :: cs, H, h => by
    show putG (upd H a (.tup c)) as cs b = H b
    rw [putG_off as cs _ (fun z => h (List.mem_cons_of_mem _ z)), upd_ne (fun z => h (by rw [z]; exact List.mem_cons_self))]
theorem putG_at : ∀ (as : List Addr) (cs : List (List V)) (H : Hp), as.length = cs.length → as.Nodup → ∀ (j : Nat) (a : Addr), as[j]? = some a → ∃ c, cs[j]? = some c ∧ putG H as cs a = some (.tup c)
  | [], _, _, _, _, j, a, h => by simp at h
  | _ :: _, [], _, h, _, _, _, _ => by cases h
  | a :: as, c :: cs, H, h, hn, 0, b, e => by
    have hn' := List.nodup_cons.mp hn
    have e' : a = b := by simpa using e
    subst e'
    refine ⟨c, rfl, ?_⟩
    show putG (upd H a (.tup c)) as cs a = some (.tup c)
    rw [putG_off as cs _ hn'.1, upd_same]
  | a :: as, c :: cs, H, h, hn, j + 1, b, e => by
    have hn' := List.nodup_cons.mp hn
    exact putG_at as cs (upd H a (.tup c)) (Nat.succ.inj h) hn'.2 j b (by simpa using e)
/-- a new list of new tuples -/
def NewPairs (H : Hp) (cs : List (List V)) (p : Addr) (ts : List Addr) (H' : Hp) : Prop :=
  Same H H' ∧ H p = none ∧ (∀ t ∈ ts, H t = none) ∧ p ∉ ts ∧ ts.Nodup ∧ ts.length = cs.length ∧ H' p = some (.lst (ts.map V.ref)) ∧ ∀ (j : Nat) (c : List V), cs[j]? = some c → ∃ t, ts[j]? = some t ∧ H' t = some (.tup c)
theorem refs_vals : ∀ as : List Addr, Vals (as.map V.ref) (as.map Value.ref)
  | [] => .nil
  | _ :: as => .cons rfl (refs_vals as)
section
variable {X : Cx} {e : Expr} {ta : TA} {p p2 cpos pos : Pos}
theorem laid_pairs {pins : List (Addr × Obj)} {σ : L2.St} {H : Hp} {s : Shared} {h' : Heap} {tk : Nat} {cs : List (List V)} {acc : Array Value} {c S : Nat} {as : List Addr} (I : Inv X pins σ H s) (hz : cs.length ≤ sizeLine) (hS0 : s.heap.objs.size ≤ S)
    (hk : ∀ b o, s.heap.get? b = some o → h'.get? b = some o) (hS : h'.get? S = some { cls := .type "list", dict := none, data := .seq acc c, slots := #[] }) (hl : as.length = cs.length) (hr : as.Pairwise (· < ·)) (hab : ∀ a ∈ as, S < a)
    (ht : ∀ (j : Nat) (a : Addr) (c : List V), as[j]? = some a → cs[j]? = some c → c.length ≤ sizeLine ∧ ∃ us, Vals c us ∧ IsTup h' a us.toArray) (hacc : acc.toList = as.map Value.ref) :
    ∃ H' : Hp, NewPairs H cs S as H' ∧ Inv X pins σ H' { s with heap := h', toks := tk } := by
  have hSn : S ∉ as := fun z => Nat.lt_irrefl _ (hab _ z)
  have nd : as.Nodup := List.Pairwise.imp (fun {a b} (h : a < b) => Nat.ne_of_lt h) hr
  have new : ∀ t ∈ as, H t = none := fun t ht => I.hok.fresh (Nat.le_of_lt (Nat.lt_of_le_of_lt hS0 (hab t ht)))
  have newS : H S = none := I.hok.fresh hS0
  have atP := putG_at as cs (upd H S (.lst (as.map V.ref))) hl nd
  have off : ∀ b, b ∉ as → b ≠ S → putG (upd H S (.lst (as.map V.ref))) as cs b = H b := fun b h1 h2 => by rw [putG_off as cs _ h1, upd_ne h2]
  have low : ∀ b o, s.heap.get? b = some o → b ∉ as ∧ b ≠ S := fun b o e => ⟨fun z => absurd (Heap.lt_size e) (Nat.not_lt.mpr (Nat.le_of_lt (Nat.lt_of_le_of_lt hS0 (hab b z)))), Nat.ne_of_lt (Nat.lt_of_lt_of_le (Heap.lt_size e) hS0)⟩
  have kp : ∀ b u, H b = some u → (putG (upd H S (.lst (as.map V.ref))) as cs) b = some u := fun b u e => by
    rw [off b (fun z => by rw [new b z] at e; cases e) (fun z => by rw [z, newS] at e; cases e)]
    exact e
  have eS : putG (upd H S (.lst (as.map V.ref))) as cs S = some (.lst (as.map V.ref)) := by rw [putG_off as cs _ hSn, upd_same]
  refine ⟨putG (upd H S (.lst (as.map V.ref))) as cs, ⟨kp, newS, new, hSn, nd, hl, eS, fun j c hc => ?_⟩, ?_⟩
  · have hj : j < as.length := by rw [hl]; exact (List.getElem?_eq_some_iff.mp hc).1
    obtain ⟨c', h1, h2⟩ := atP j as[j] (List.getElem?_eq_getElem hj)
    rw [hc] at h1
    cases h1
    exact ⟨as[j], List.getElem?_eq_getElem hj, h2⟩
  refine I.call' (ch := []) rfl ⟨fun b o q _ _ _ => hk b o q, fun b o q _ _ _ => ⟨o.slots, hk b o q⟩, fun b o q n _ => ?_, fun b o q _ => ⟨o, hk b o q⟩, fun b xs q => kp b _ q, fun b o u q => kp b _ q, fun b ps q => ⟨#[], by rw [kp b _ q]; simp⟩⟩ (fun b u q => ?_) I.bare fun b z => by simp at z
  · obtain ⟨z1, z2⟩ := low b o q
    rw [off b z1 z2]
    exact n
  · by_cases hb : b ∈ as
    · obtain ⟨j, e1⟩ := List.mem_iff_getElem?.mp hb
      obtain ⟨c', e2, e3⟩ := atP j b e1
      rw [e3] at q
      cases q
      obtain ⟨z, us, r, tt⟩ := ht j b c' e1 e2
      exact ⟨z, us, r, tt⟩
    · by_cases hb2 : b = S
      · rw [hb2] at q ⊢
        rw [eS] at q
        cases q
        refine ⟨by rw [List.length_map]; omega, acc.toList, c, by rw [hacc]; exact refs_vals as, ?_⟩
        rw [Array.toArray_toList]
        exact hS
      · rw [off b hb hb2] at q
        exact (I.hok b u q).stay (fun d v _ y => hk d v y) (fun d y => kp d _ y) fun d xs y => kp d _ y
/-- the pairs (i, x) of a list -/
def enumC (xs : List V) : List (List V) := xs.zipIdx.map fun p => [.int (p.2 : Nat), p.1]
theorem enumC_len (xs : List V) : (enumC xs).length = xs.length := by simp [enumC]
theorem enumC_get {xs : List V} {j : Nat} : (enumC xs)[j]? = (xs[j]?).map fun x => [.int (j : Nat), x] := by
  unfold enumC
  rw [List.getElem?_map, List.getElem?_zipIdx]
  cases xs[j]? with
  | none => rfl
  | some x => simp
def tListEnum (K : PySem.W.Frag) (ta : TA) : TE := fun σ H Q => ta σ H fun vs H1 => ∃ a xs, vs = [.ref a] ∧ SqL K H1 a xs ∧ ∀ p ts H', NewPairs H1 (enumC xs) p ts H' → Q (.ref p) H'
theorem pe_list_enum (hc : X.calm = true) (hm : X.mg "list" = none) (hm2 : X.mg "enumerate" = none) (hg2 : Gl X "enumerate") (ha : PA X [e] ta) (hg : Gl X "list" := by rfl) (hs : starEach [e] X.env = [(false, eval e X.env)] := by rfl)
    (hs2 : starEach [.Call (.Name "enumerate" p2) [e] [] cpos] X.env = (false, eval (.Call (.Name "enumerate" p2) [e] [] cpos) X.env) :: starEach [] X.env := by rfl) :
    PE X (.Call (.Name "list" p) [.Call (.Name "enumerate" p2) [e] [] cpos] [] pos) (tListEnum X.K ta) := by
  refine ⟨fun pins s σ H Q I h => ?_⟩
  refine wpAny_Call_Name_kw (ld_blt I hg hm (by decide +kernel : bootBuiltins "list" = some (.type "list")) ?_)
  refine PyProof.Rows.callWith_type1 ?_ hs2 rfl
  rw [hs2]
  show wpAny _ _ (spliced ((false, eval (.Call (.Name "enumerate" p2) [e] [] cpos) X.env) :: backTo pos (starEach [] X.env))) _ _ s
  refine Calls.spliced_cons ?_
  refine Call_ (ld_blt I hg2 hm2 boot_enumerate (PyProof.Rows.callWith_type1 (thn (ha.run cpos pins s σ H _ I h) fun us s1 ⟨vs, H1, I1, r1, q1⟩ => ?_) hs rfl))
  obtain ⟨a, xs, ex, hq, q⟩ := q1
  subst ex
  cases r1 with
  | cons r rr =>
    cases rr
    cases r
    obtain ⟨its, rv, p', hz⟩ := I1.list hq
    refine call_enumerate_list p'.isList fun h' he hit hsz hk => ?_
    refine Calls.spliced_nil ?_
    have hla : a < s1.heap.objs.size := let ⟨_, z, _⟩ := p'.isList; Heap.lt_size z
    have hL' : h'.IsList a its.toArray := p'.isList.at fun o z => hk a o z
    have hlen : its.length = xs.length := (Vals.length rv).symm
    refine en_call (s := { s1 with heap := h' }) (I1.ok.hd hc) he hit hL' (Nat.succ_ne_self _) (Nat.ne_of_lt (Nat.lt_succ_of_lt hla)) (Nat.ne_of_lt hla) (by rw [List.size_toArray, hlen]; exact hz) fun h2 tk acc c as hk2 hS hl hG hacc => ?_
    have hsz' : h'.objs.size = s1.heap.objs.size + 2 := hsz
    obtain ⟨H', N, J⟩ := laid_pairs (I := I1) (h' := h2) (tk := tk) (cs := enumC xs) (acc := acc) (c := c) (S := h'.objs.size) (as := as) (by rw [enumC_len]; exact hz) (by omega)
      (fun b o z => hk2 b o (Nat.ne_of_lt (Nat.lt_succ_of_lt (Heap.lt_size z))) (Nat.ne_of_lt (Heap.lt_size z)) (hk b o z)) hS (by rw [hl, enumC_len, List.size_toArray, hlen]) hG.rise hG.above
      (fun j b c e1 e2 => by
        rw [enumC_get] at e2
        cases hx : xs[j]? with
        | none => rw [hx] at e2; cases e2
        | some x =>
          rw [hx] at e2
          have e3 : [V.int (j : Nat), x] = c := by simpa using e2
          subst e3
          obtain ⟨t, y, f1, f2⟩ := hG.pairs j b e1
          obtain ⟨u, g1, g2⟩ := rv.get hx
          have f1' : its[j]? = some y := by simpa using f1
          rw [f1'] at g1
          cases g1
          exact ⟨by show 2 ≤ sizeLine; decide, [.int j t, y], .cons ⟨t, rfl⟩ (.cons g2 .nil), ⟨_, f2, rfl, _, rfl⟩⟩) hacc
    exact ⟨.ref _, H', J, rfl, q _ as H' N⟩
end
end UrE

namespace Ur
open PySem L2

/-! ### frames -/
/-- all that was tracked stands as it was but at a -/
def But (a : Addr) (H H' : Hp) : Prop := ∀ b o, b ≠ a → H b = some o → H' b = some o
theorem same_get {H H' : Hp} {b : Addr} {o : HO} (s : Same H H') (h : H b = some o) : H' b = some o := s b o h
theorem but_get {H H' : Hp} {a b : Addr} {o : HO} (s : But a H H') (n : b ≠ a) (h : H b = some o) : H' b = some o := s b o n h
theorem ne_new {H : Hp} {a b : Addr} {o : HO} (h' : H b = none) (h : H a = some o) : a ≠ b := ne_of_none h h'
theorem at_nat {α : Type} {xs : List α} {j : Nat} {v : α} (h : xs[j]? = some v) : atI xs (j : Int) = some v := atI_nat h
theorem dead_upd {H : Hp} {a : Addr} {o u : HO} (h : upd H a o a = some u) : upd H a o a = some u := h
theorem dead_ne {a : Addr} (h : a ≠ a) : a ≠ a := h
theorem sz {n : Nat} (h : n ≤ 1000000) : n ≤ sizeLine := Nat.le_trans h (by decide)
theorem szl {n : Nat} (h : n < 1000000) : n < sizeLine := Nat.lt_of_lt_of_le h (by decide)
theorem ne_new' {H : Hp} {a b : Addr} {o : HO} (h' : H a = none) (h : H b = some o) : a ≠ b := fun e => ne_of_none h h' e.symm
theorem get_upd {H : Hp} {a b : Addr} {o u : HO} (n : b ≠ a) (h : H b = some u) : upd H a o b = some u := (upd_ne n).trans h
theorem b01 (b : Bool) : 0 ≤ (if b = true then (1 : Int) else 0) ∧ (if b = true then (1 : Int) else 0) ≤ 1 := by cases b <;> decide
/-! ### frames, for the search -/
theorem same_snoc {H0 H : Hp} {p : Addr} {o : HO} (n : H p = none) (s : Same H0 H) : Same H0 (upd H p o) := fun b u e => by
  have e' := s b u e
  rw [upd_ne (ne_of_none e' n)]
  exact e'
theorem same_upd' {H0 H : Hp} {p : Addr} {o : HO} (n : H0 p = none) (s : Same H0 H) : Same H0 (upd H p o) := fun b u e => by
  rw [upd_ne (ne_of_none e n)]
  exact s b u e
theorem same_step {H0 H1 H2 : Hp} (s2 : Same H1 H2) (s1 : Same H0 H1) : Same H0 H2 := s1.trans s2
theorem same_pairs {H0 H1 H2 : Hp} {cs : List (List V)} {p : Addr} {ts : List Addr} (n : UrE.NewPairs H1 cs p ts H2) (s1 : Same H0 H1) : Same H0 H2 := s1.trans n.1
theorem same_but {H0 H1 H2 : Hp} {a : Addr} (b : But a H1 H2) (n : H0 a = none) (s : Same H0 H1) : Same H0 H2 := fun x o e =>
  b x o (fun k => by rw [k, n] at e; cases e) (s x o e)
theorem adv0 {H H1 : Hp} {b : Addr} {o : HO} (s : Same H H1) (h : H b = some o) : H1 b = some o ∧ (∀ p, H p = none → b ≠ p) ∧ ∀ p, H p = none → b ≠ p := ⟨s _ _ h, fun _ k => ne_new k h, fun _ k => ne_new k h⟩
theorem adv1 {H H1 : Hp} {a0 : Addr} {o0 : HO} {b : Addr} {o : HO} (s : Same (upd H a0 o0) H1) (n0 : b ≠ a0) (h : H b = some o) : H1 b = some o ∧ (∀ p, (upd H a0 o0) p = none → b ≠ p) ∧ ∀ p, H p = none → b ≠ p := ⟨s _ _ (get_upd n0 h), fun _ k => ne_new k (get_upd n0 h), fun _ k => ne_new k h⟩
theorem adv2 {H H1 : Hp} {a0 : Addr} {o0 : HO} {a1 : Addr} {o1 : HO} {b : Addr} {o : HO} (s : Same (upd (upd H a0 o0) a1 o1) H1) (n0 : b ≠ a0) (n1 : b ≠ a1) (h : H b = some o) : H1 b = some o ∧ (∀ p, (upd (upd H a0 o0) a1 o1) p = none → b ≠ p) ∧ ∀ p, H p = none → b ≠ p := ⟨s _ _ (get_upd n1 (get_upd n0 h)), fun _ k => ne_new k (get_upd n1 (get_upd n0 h)), fun _ k => ne_new k h⟩
theorem adv3 {H H1 : Hp} {a0 : Addr} {o0 : HO} {a1 : Addr} {o1 : HO} {a2 : Addr} {o2 : HO} {b : Addr} {o : HO} (s : Same (upd (upd (upd H a0 o0) a1 o1) a2 o2) H1) (n0 : b ≠ a0) (n1 : b ≠ a1) (n2 : b ≠ a2) (h : H b = some o) : H1 b = some o ∧ (∀ p, (upd (upd (upd H a0 o0) a1 o1) a2 o2) p = none → b ≠ p) ∧ ∀ p, H p = none → b ≠ p := ⟨s _ _ (get_upd n2 (get_upd n1 (get_upd n0 h))), fun _ k => ne_new k (get_upd n2 (get_upd n1 (get_upd n0 h))), fun _ k => ne_new k h⟩
theorem adv4 {H H1 : Hp} {a0 : Addr} {o0 : HO} {a1 : Addr} {o1 : HO} {a2 : Addr} {o2 : HO} {a3 : Addr} {o3 : HO} {b : Addr} {o : HO} (s : Same (upd (upd (upd (upd H a0 o0) a1 o1) a2 o2) a3 o3) H1) (n0 : b ≠ a0) (n1 : b ≠ a1) (n2 : b ≠ a2) (n3 : b ≠ a3) (h : H b = some o) : H1 b = some o ∧ (∀ p, (upd (upd (upd (upd H a0 o0) a1 o1) a2 o2) a3 o3) p = none → b ≠ p) ∧ ∀ p, H p = none → b ≠ p := ⟨s _ _ (get_upd n3 (get_upd n2 (get_upd n1 (get_upd n0 h)))), fun _ k => ne_new k (get_upd n3 (get_upd n2 (get_upd n1 (get_upd n0 h)))), fun _ k => ne_new k h⟩
theorem adv5 {H H1 : Hp} {a0 : Addr} {o0 : HO} {a1 : Addr} {o1 : HO} {a2 : Addr} {o2 : HO} {a3 : Addr} {o3 : HO} {a4 : Addr} {o4 : HO} {b : Addr} {o : HO} (s : Same (upd (upd (upd (upd (upd H a0 o0) a1 o1) a2 o2) a3 o3) a4 o4) H1) (n0 : b ≠ a0) (n1 : b ≠ a1) (n2 : b ≠ a2) (n3 : b ≠ a3) (n4 : b ≠ a4) (h : H b = some o) : H1 b = some o ∧ (∀ p, (upd (upd (upd (upd (upd H a0 o0) a1 o1) a2 o2) a3 o3) a4 o4) p = none → b ≠ p) ∧ ∀ p, H p = none → b ≠ p := ⟨s _ _ (get_upd n4 (get_upd n3 (get_upd n2 (get_upd n1 (get_upd n0 h))))), fun _ k => ne_new k (get_upd n4 (get_upd n3 (get_upd n2 (get_upd n1 (get_upd n0 h))))), fun _ k => ne_new k h⟩
theorem adv6 {H H1 : Hp} {a0 : Addr} {o0 : HO} {a1 : Addr} {o1 : HO} {a2 : Addr} {o2 : HO} {a3 : Addr} {o3 : HO} {a4 : Addr} {o4 : HO} {a5 : Addr} {o5 : HO} {b : Addr} {o : HO} (s : Same (upd (upd (upd (upd (upd (upd H a0 o0) a1 o1) a2 o2) a3 o3) a4 o4) a5 o5) H1) (n0 : b ≠ a0) (n1 : b ≠ a1) (n2 : b ≠ a2) (n3 : b ≠ a3) (n4 : b ≠ a4) (n5 : b ≠ a5) (h : H b = some o) : H1 b = some o ∧ (∀ p, (upd (upd (upd (upd (upd (upd H a0 o0) a1 o1) a2 o2) a3 o3) a4 o4) a5 o5) p = none → b ≠ p) ∧ ∀ p, H p = none → b ≠ p := ⟨s _ _ (get_upd n5 (get_upd n4 (get_upd n3 (get_upd n2 (get_upd n1 (get_upd n0 h)))))), fun _ k => ne_new k (get_upd n5 (get_upd n4 (get_upd n3 (get_upd n2 (get_upd n1 (get_upd n0 h)))))), fun _ k => ne_new k h⟩
theorem adv7 {H H1 : Hp} {a0 : Addr} {o0 : HO} {a1 : Addr} {o1 : HO} {a2 : Addr} {o2 : HO} {a3 : Addr} {o3 : HO} {a4 : Addr} {o4 : HO} {a5 : Addr} {o5 : HO} {a6 : Addr} {o6 : HO} {b : Addr} {o : HO} (s : Same (upd (upd (upd (upd (upd (upd (upd H a0 o0) a1 o1) a2 o2) a3 o3) a4 o4) a5 o5) a6 o6) H1) (n0 : b ≠ a0) (n1 : b ≠ a1) (n2 : b ≠ a2) (n3 : b ≠ a3) (n4 : b ≠ a4) (n5 : b ≠ a5) (n6 : b ≠ a6) (h : H b = some o) : H1 b = some o ∧ (∀ p, (upd (upd (upd (upd (upd (upd (upd H a0 o0) a1 o1) a2 o2) a3 o3) a4 o4) a5 o5) a6 o6) p = none → b ≠ p) ∧ ∀ p, H p = none → b ≠ p := ⟨s _ _ (get_upd n6 (get_upd n5 (get_upd n4 (get_upd n3 (get_upd n2 (get_upd n1 (get_upd n0 h))))))), fun _ k => ne_new k (get_upd n6 (get_upd n5 (get_upd n4 (get_upd n3 (get_upd n2 (get_upd n1 (get_upd n0 h))))))), fun _ k => ne_new k h⟩
theorem same_free {H0 H : Hp} {p : Addr} (n : H p = none) (s : Same H0 H) : H0 p = none := s.free n
theorem but_refl {a : Addr} {H : Hp} : But a H H := fun _ _ _ e => e
theorem but_at {a : Addr} {H0 H : Hp} {o : HO} (s : But a H0 H) : But a H0 (upd H a o) := fun b u n e => by
  rw [upd_ne n]
  exact s b u n e
theorem but_snoc {a : Addr} {H0 H : Hp} {p : Addr} {o : HO} (n : H p = none) (s : But a H0 H) : But a H0 (upd H p o) := fun b u nb e => by
  have e' := s b u nb e
  rw [upd_ne (ne_of_none e' n)]
  exact e'
theorem but_upd {a : Addr} {H0 H : Hp} {p : Addr} {o : HO} (n : H0 p = none) (s : But a H0 H) : But a H0 (upd H p o) := fun b u nb e => by
  rw [upd_ne (ne_of_none e n)]
  exact s b u nb e
theorem but_step {a : Addr} {H0 H1 H2 : Hp} (s2 : But a H1 H2) (s1 : But a H0 H1) : But a H0 H2 := fun b u n e => s2 b u n (s1 b u n e)
theorem but_step' {a : Addr} {H0 H1 H2 : Hp} (s2 : Same H1 H2) (s1 : But a H0 H1) : But a H0 H2 := fun b u n e => s2 b u (s1 b u n e)
theorem but_free {a : Addr} {H0 H1 : Hp} {p : Addr} {o : HO} (h : H1 p = none) (x : But a H0 H1) (ha : H1 a = some o) : H0 p = none := by
  by_cases e : p = a
  · rw [e, ha] at h; cases h
  · cases q : H0 p with
    | none => rfl
    | some u => rw [x p u e q] at h; cases h
/-- a word that the search does not open -/
structure Iv (P : Prop) : Prop where
  out : P
/-! ### a loop's invariant is asked here -/
theorem isW1 {P : (Nat → Nat → Hp → Prop) → Prop} (h : ∃ W, P W) : ∃ W, P W := h
theorem isW2 {P : (Nat → Nat → L2.St → Hp → Prop) → Prop} (h : ∃ W, P W) : ∃ W, P W := h
theorem isW3 {P : (Nat → L2.St → Hp → Prop) → Prop} (h : ∃ W, P W) : ∃ W, P W := h
theorem isW4 {P : (L2.St → Hp → Prop) → Prop} (h : ∃ W, P W) : ∃ W, P W := h
/-! ### branches -/
theorem br {c : Prop} [Decidable c] {A B : Prop} (h1 : c → A) (h2 : ¬ c → B) : if decide c = true then A else B := by
  by_cases h : c
  · rw [if_pos (decide_eq_true h)]
    exact h1 h
  · rw [if_neg (by rw [decide_eq_false h]; exact Bool.false_ne_true)]
    exact h2 h
theorem brn {c : Prop} [Decidable c] {A B : Prop} (h1 : ¬ c → A) (h2 : c → B) : if (!decide c) = true then A else B := by
  by_cases h : c
  · rw [if_neg (by rw [decide_eq_true h]; decide)]
    exact h2 h
  · rw [if_pos (by rw [decide_eq_false h]; decide)]
    exact h1 h
theorem bri {i j : Int} {A B : Prop} (h1 : i = j → A) (h2 : ¬ i = j → B) : if decide (V.int i = V.int j) = true then A else B :=
  br (fun h => h1 (V.int.inj h)) (fun h => h2 fun e => h (by rw [e]))
theorem brni {i j : Int} {A B : Prop} (h1 : ¬ i = j → A) (h2 : i = j → B) : if (!decide (V.int i = V.int j)) = true then A else B :=
  brn (fun h => h1 fun e => h (by rw [e])) (fun h => h2 (V.int.inj h))
theorem brb {b : Bool} {A B : Prop} (h1 : b = true → A) (h2 : b = false → B) : if b = true then A else B := by
  cases b with
  | true => exact (if_pos rfl).mpr (h1 rfl)
  | false => exact (if_neg Bool.false_ne_true).mpr (h2 rfl)
/-! ### branches that are known -/
theorem brT {c : Prop} [Decidable c] {A B : Prop} (h : c) (a : A) : if decide c = true then A else B := by rw [if_pos (decide_eq_true h)]; exact a
theorem brF {c : Prop} [Decidable c] {A B : Prop} (h : ¬ c) (b : B) : if decide c = true then A else B := by rw [if_neg (by rw [decide_eq_false h]; exact Bool.false_ne_true)]; exact b
theorem brnT {c : Prop} [Decidable c] {A B : Prop} (h : c) (b : B) : if (!decide c) = true then A else B := by rw [if_neg (by rw [decide_eq_true h]; decide)]; exact b
theorem brnF {c : Prop} [Decidable c] {A B : Prop} (h : ¬ c) (a : A) : if (!decide c) = true then A else B := by rw [if_pos (by rw [decide_eq_false h]; decide)]; exact a
theorem noN {A B : Prop} {i : Int} (b : B) : if decide (V.int i = V.non) = true then A else B := by rw [if_neg (by rw [decide_eq_false (by intro e; cases e)]; exact Bool.false_ne_true)]; exact b
theorem noNn {A B : Prop} {i : Int} (a : A) : if (!decide (V.int i = V.non)) = true then A else B := by rw [if_pos (by rw [decide_eq_false (by intro e; cases e)]; decide)]; exact a
end Ur

namespace Ur
open PySem L2
/-! ### lists of ints: ==, slices, loops -/
/-- the list of ints as values -/
abbrev iv (ns : List Int) : List V := ns.map V.int
theorem dpAll_ints {K : PySem.W.Frag} {H : Hp} : ∀ ns : List Int, DpAll K H (ns.map V.int) (ns.map PyData.int)
  | [] => .nil
  | n :: ns => .cons (.int n) (dpAll_ints ns)
theorem dp_ints {K : PySem.W.Frag} {H : Hp} {a : Addr} {ns : List Int} (h : SqL K H a (ns.map V.int)) : Dp K H (.ref a) (.list (ns.map PyData.int)) := .lst h (dpAll_ints ns)
theorem canLayAll_ints : ∀ ns : List Int, PyData.canLayAll0 (ns.map PyData.int) = true
  | [] => rfl
  | n :: ns => by
    show (PyData.canLay0 (.int n) && PyData.canLayAll0 (ns.map PyData.int)) = true
    rw [canLayAll_ints ns]
    rfl
theorem depthAll_ints : ∀ ns : List Int, PyData.depthAll (ns.map PyData.int) ≤ 1
  | [] => by decide
  | n :: ns => by
    have h := depthAll_ints ns
    rw [List.map_cons, PyData.depthAll]
    exact Nat.max_le.mpr ⟨by simp [PyData.depth], h⟩
theorem depth_ints (ns : List Int) : PyData.depth (.list (ns.map PyData.int)) ≤ 2 := by
  have h := depthAll_ints ns
  rw [PyData.depth]
  omega
theorem shaped_of {d : PyData} (c : PyData.canLay0 d = true) (h : PyData.depth d ≤ 64) : SeqAt.shaped d = true := by
  unfold SeqAt.shaped
  rw [c, decide_eq_true h]
  rfl
theorem shaped_ints (ns : List Int) : SeqAt.shaped (.list (ns.map PyData.int)) = true := shaped_of (canLayAll_ints ns) (Nat.le_trans (depth_ints ns) (by decide))
theorem eqvAll_ints : ∀ ns ms : List Int, PyData.eqvAll (ns.map PyData.int) (ms.map PyData.int) = decide (ns = ms)
  | [], [] => rfl
  | [], _ :: _ => rfl
  | _ :: _, [] => rfl
  | n :: ns, m :: ms => by
    show (PyData.eqv (.int n) (.int m) && PyData.eqvAll (ns.map PyData.int) (ms.map PyData.int)) = decide (n :: ns = m :: ms)
    rw [eqvAll_ints ns ms]
    show ((n == m) && decide (ns = ms)) = decide (n :: ns = m :: ms)
    by_cases h : n = m <;> by_cases h2 : ns = ms <;> simp [h, h2]
theorem eqv_ints (ns ms : List Int) : PyData.eqv (.list (ns.map PyData.int)) (.list (ms.map PyData.int)) = decide (ns = ms) := eqvAll_ints ns ms
theorem rEq_ints {K : PySem.W.Frag} {H : Hp} {a b : Addr} {ns ms : List Int} {Q : VK} (h1 : SqL K H a (ns.map V.int)) (h2 : SqL K H b (ms.map V.int)) (q : Q (.bl (decide (ns = ms))) H) : rEqD K (.ref a) (.ref b) H Q :=
  ⟨_, _, dp_ints h1, dp_ints h2, shaped_ints ns, shaped_ints ms, by rw [eqv_ints]; exact q⟩
theorem rNe_ints {K : PySem.W.Frag} {H : Hp} {a b : Addr} {ns ms : List Int} {Q : VK} (h1 : SqL K H a (ns.map V.int)) (h2 : SqL K H b (ms.map V.int)) (q : Q (.bl (!decide (ns = ms))) H) : rNeD K (.ref a) (.ref b) H Q :=
  ⟨_, _, dp_ints h1, dp_ints h2, shaped_ints ns, shaped_ints ms, by rw [eqv_ints]; exact q⟩
theorem SqL.nil_of {K : PySem.W.Frag} {H : Hp} {a : Addr} (h : SqL K H a []) : SqL K H a (([] : List Int).map V.int) := h

theorem iv_get {ns : List Int} {i : Nat} {x : V} (h : (ns.map V.int)[i]? = some x) : ∃ n, ns[i]? = some n ∧ x = .int n := by
  rw [List.getElem?_map] at h
  cases e : ns[i]? with
  | none => rw [e] at h; cases h
  | some n => rw [e] at h; exact ⟨n, rfl, (Option.some.inj h).symm⟩
theorem iv_get' {ns : List Int} {i : Nat} {n : Int} (h : ns[i]? = some n) : (ns.map V.int)[i]? = some (.int n) := by rw [List.getElem?_map, h]; rfl
theorem at_int {ns : List Int} {j : Nat} {n : Int} (h : ns[j]? = some n) : atI (ns.map V.int) (j : Int) = some (.int n) := atI_nat (iv_get' h)
/-- an item at an int place -/
theorem at_int' {ns : List Int} {i : Int} (h0 : 0 ≤ i) (h1 : i < ns.length) : atI (ns.map V.int) i = some (.int (ns.getD i.toNat 0)) := by
  have hj : i.toNat < ns.length := by omega
  have e : i = ((i.toNat : Nat) : Int) := by omega
  have e2 : ns[i.toNat]? = some (ns.getD i.toNat 0) := by rw [List.getD_eq_getElem?_getD, List.getElem?_eq_getElem hj]; rfl
  rw [e]
  exact at_int (by rw [Int.toNat_natCast]; exact e2)
theorem at2 {x y i : Int} (h0 : 0 ≤ i) (h1 : i < 2) : atI [V.int x, V.int y] i = some (.int ([x, y].getD i.toNat 0)) := at_int' (ns := [x, y]) h0 h1
theorem at3 {x y z i : Int} (h0 : 0 ≤ i) (h1 : i < 3) : atI [V.int x, V.int y, V.int z] i = some (.int ([x, y, z].getD i.toNat 0)) := at_int' (ns := [x, y, z]) h0 h1
theorem at4 {x y z w i : Int} (h0 : 0 ≤ i) (h1 : i < 4) : atI [V.int x, V.int y, V.int z, V.int w] i = some (.int ([x, y, z, w].getD i.toNat 0)) := at_int' (ns := [x, y, z, w]) h0 h1
theorem at6 {x y z w u v i : Int} (h0 : 0 ≤ i) (h1 : i < 6) : atI [V.int x, V.int y, V.int z, V.int w, V.int u, V.int v] i = some (.int ([x, y, z, w, u, v].getD i.toNat 0)) := at_int' (ns := [x, y, z, w, u, v]) h0 h1
theorem getD4 {x y z w i lo hi : Int} (h0 : 0 ≤ i) (h1 : i < 4) (hx : lo ≤ x ∧ x ≤ hi) (hy : lo ≤ y ∧ y ≤ hi) (hz : lo ≤ z ∧ z ≤ hi) (hw : lo ≤ w ∧ w ≤ hi) : lo ≤ [x, y, z, w].getD i.toNat 0 ∧ [x, y, z, w].getD i.toNat 0 ≤ hi := by
  have h : i = 0 ∨ i = 1 ∨ i = 2 ∨ i = 3 := by omega
  rcases h with rfl | rfl | rfl | rfl
  · exact hx
  · exact hy
  · exact hz
  · exact hw
theorem getD2 {x y i lo hi : Int} (h0 : 0 ≤ i) (h1 : i < 2) (hx : lo ≤ x ∧ x ≤ hi) (hy : lo ≤ y ∧ y ≤ hi) : lo ≤ [x, y].getD i.toNat 0 ∧ [x, y].getD i.toNat 0 ≤ hi := by
  have h : i = 0 ∨ i = 1 := by omega
  rcases h with rfl | rfl
  · exact hx
  · exact hy
theorem getD3 {x y z i lo hi : Int} (h0 : 0 ≤ i) (h1 : i < 3) (hx : lo ≤ x ∧ x ≤ hi) (hy : lo ≤ y ∧ y ≤ hi) (hz : lo ≤ z ∧ z ≤ hi) : lo ≤ [x, y, z].getD i.toNat 0 ∧ [x, y, z].getD i.toNat 0 ≤ hi := by
  have h : i = 0 ∨ i = 1 ∨ i = 2 := by omega
  rcases h with e | e | e <;> subst e
  · exact hx
  · exact hy
  · exact hz
theorem getD6 {x y z w u v i lo hi : Int} (h0 : 0 ≤ i) (h1 : i < 6) (hx : lo ≤ x ∧ x ≤ hi) (hy : lo ≤ y ∧ y ≤ hi) (hz : lo ≤ z ∧ z ≤ hi) (hw : lo ≤ w ∧ w ≤ hi) (hu : lo ≤ u ∧ u ≤ hi) (hv : lo ≤ v ∧ v ≤ hi) : lo ≤ [x, y, z, w, u, v].getD i.toNat 0 ∧ [x, y, z, w, u, v].getD i.toNat 0 ≤ hi := by
  have h : i = 0 ∨ i = 1 ∨ i = 2 ∨ i = 3 ∨ i = 4 ∨ i = 5 := by omega
  rcases h with e | e | e | e | e | e <;> subst e
  · exact hx
  · exact hy
  · exact hz
  · exact hw
  · exact hu
  · exact hv
theorem ixN_of {n : Nat} {i : Int} (h0 : 0 ≤ i) (h1 : i < n) : ixN n i = some i.toNat := by
  unfold ixN
  rw [if_pos h0, if_pos h1]

theorem ixN_iv {ns : List Int} {i : Int} (h0 : 0 ≤ i) (h1 : i < ns.length) : ixN (ns.map V.int).length i = some i.toNat := by
  rw [List.length_map]
  unfold ixN
  rw [if_pos h0, if_pos h1]
theorem upd_snoc {H : Hp} {a : Addr} {ns : List Int} {v : Int} : upd H a (.lst (ns.map V.int ++ [V.int v])) a = some (.lst ((ns ++ [v]).map V.int)) := by
  rw [upd_same, List.map_append]
  rfl
theorem upd_set {H : Hp} {a : Addr} {ns : List Int} {j : Nat} {v : Int} : upd H a (.lst ((ns.map V.int).set j (V.int v))) a = some (.lst ((ns.set j v).map V.int)) := by
  rw [upd_same, List.map_set]
/-- .. against a list without items -/
theorem rEq_intsN {K : PySem.W.Frag} {H : Hp} {a b : Addr} {ns : List Int} {Q : VK} (h1 : SqL K H a (ns.map V.int)) (h2 : SqL K H b []) (q : Q (.bl (decide (ns = []))) H) : rEqD K (.ref a) (.ref b) H Q :=
  rEq_ints (ms := []) h1 h2 q
theorem rNe_intsN {K : PySem.W.Frag} {H : Hp} {a b : Addr} {ns : List Int} {Q : VK} (h1 : SqL K H a (ns.map V.int)) (h2 : SqL K H b []) (q : Q (.bl (!decide (ns = []))) H) : rNeD K (.ref a) (.ref b) H Q :=
  rNe_ints (ms := []) h1 h2 q
/-! ### built-ins of one argument, of two -/
def tB1 (r : List V → Hp → VK → Prop) (te : TE) : TE := fun σ H Q => te σ H fun x H1 => r [x] H1 Q
def tB2 (r : List V → Hp → VK → Prop) (ta tb : TE) : TE := fun σ H Q => ta σ H fun x H1 => tb σ H1 fun y H2 => r [x, y] H2 Q
section
variable {X : Cx} {x : Str} {id T : String} {e f : Expr} {te tf : TE} {r : List V → Hp → VK → Prop} {p pos : Pos}
theorem pe_b1 (hc : CallR X (.builtin id) r) (hg : Gl X x) (hm : X.mg x = none) (hv : bootBuiltins x = some (.builtin id)) (ha : PE X e te) (hn : x ≠ "__name__" := by decide) (hdb : (x == ("__debug__" : Str)) = false := by decide)
    (he : starEach [e] X.env = (false, eval e X.env) :: starEach [] X.env := by rfl) : PE X (.Call (.Name x p) [e] [] pos) (tB1 r te) := pe_callB hc hg hm hv (pa_cons ha pa_nil he) hn hdb he rfl
theorem pe_b2 (hc : CallR X (.builtin id) r) (hg : Gl X x) (hm : X.mg x = none) (hv : bootBuiltins x = some (.builtin id)) (ha : PE X e te) (hb : PE X f tf) (hn : x ≠ "__name__" := by decide) (hdb : (x == ("__debug__" : Str)) = false := by decide)
    (he : starEach [e, f] X.env = (false, eval e X.env) :: starEach [f] X.env := by rfl) (hf : starEach [f] X.env = (false, eval f X.env) :: starEach [] X.env := by rfl) (hpl : (backTo pos (starEach [f] X.env)).any (·.1) = false := by rfl) :
    PE X (.Call (.Name x p) [e, f] [] pos) (tB2 r te tf) := pe_callB hc hg hm hv (pa_cons ha (pa_cons hb pa_nil hf) he) hn hdb he hpl
theorem pe_t1 (hc : CallR X (.type T) r) (hg : Gl X x) (hm : X.mg x = none) (hv : bootBuiltins x = some (.type T)) (ha : PE X e te) (hn : x ≠ "__name__" := by decide) (hdb : (x == ("__debug__" : Str)) = false := by decide)
    (he : starEach [e] X.env = (false, eval e X.env) :: starEach [] X.env := by rfl) : PE X (.Call (.Name x p) [e] [] pos) (tB1 r te) := pe_callTy hc hg hm hv (pa_cons ha pa_nil he) hn hdb he rfl
end
theorem tyL {K : PySem.W.Frag} {H : Hp} {l : Addr} {xs : List V} (h : SqL K H l xs) : tyV K "list" (.ref l) H := Or.inl ⟨rfl, _, h⟩
/-! ### len -/
def rLenI (K : PySem.W.Frag) : List V → Hp → VK → Prop := fun xs H Q => ∃ p ys, xs = [.ref p] ∧ (SqL K H p ys ∨ SqT K H p ys) ∧ Q (.int ys.length) H
theorem call_lenI {X : Cx} : CallR X (.builtin "len") (rLenI X.K) := call_len_seq
theorem len_ints {K : PySem.W.Frag} {H : Hp} {p : Addr} {ns : List Int} {Q : VK} (h : SqL K H p (ns.map V.int)) (q : Q (.int ns.length) H) : rLenI K [.ref p] H Q :=
  ⟨p, _, rfl, Or.inl h, by rw [List.length_map]; exact q⟩
theorem upd_app {H : Hp} {a : Addr} {ns ms : List Int} : upd H a (.lst (ns.map V.int ++ ms.map V.int)) a = some (.lst ((ns ++ ms).map V.int)) := by
  rw [upd_same, List.map_append]
theorem upd_1cat {H : Hp} {a : Addr} {x : Int} {ms : List Int} : upd H a (.lst ([V.int x] ++ ms.map V.int)) a = some (.lst ((x :: ms).map V.int)) := upd_same
theorem rep_iv (k : Nat) (v : Int) : (List.replicate k [V.int v]).flatten = (List.replicate k v).map V.int := by
  induction k with
  | zero => rfl
  | succ k ih => rw [List.replicate_succ, List.flatten_cons, ih, List.replicate_succ, List.map_cons]; rfl
theorem upd_rep {H : Hp} {a : Addr} {ns : List Int} {k : Nat} {v : Int} : upd H a (.lst (ns.map V.int ++ (List.replicate k [V.int v]).flatten)) a = some (.lst ((ns ++ List.replicate k v).map V.int)) := by
  rw [upd_same, rep_iv, List.map_append]
theorem upd_rep0 {H : Hp} {a : Addr} {k : Nat} {v : Int} : upd H a (.lst (List.replicate k [V.int v]).flatten) a = some (.lst ((List.replicate k v).map V.int)) := by
  rw [upd_same, rep_iv]
/-! ### slices -/
theorem sIx_pos (n d : Nat) {m : Int} (h : 0 ≤ m) : HT.sIx n d (some m) = min m.toNat n := by
  show (if m < 0 then (m + (n : Int)).toNat else min m.toNat n) = min m.toNat n
  rw [if_neg (by omega)]
theorem cut_all (xs : List V) : cutV xs none none = xs := by
  unfold cutV
  rw [HT.sIx_none, HT.sIx_none]
  simp
theorem cut_to (xs : List V) {m : Int} (h : 0 ≤ m) : cutV xs none (some m) = xs.take m.toNat := by
  unfold cutV
  rw [HT.sIx_none, sIx_pos _ _ h, List.drop_zero, Nat.sub_zero]
  by_cases hm : m.toNat ≤ xs.length
  · rw [Nat.min_eq_left hm]
  · rw [Nat.min_eq_right (by omega), List.take_of_length_le (Nat.le_refl _), List.take_of_length_le (by omega)]
theorem cut_from (xs : List V) {m : Int} (h : 0 ≤ m) : cutV xs (some m) none = xs.drop m.toNat := by
  unfold cutV
  rw [HT.sIx_none, sIx_pos _ _ h]
  by_cases hm : m.toNat ≤ xs.length
  · rw [Nat.min_eq_left hm, List.take_of_length_le (by rw [List.length_drop]; omega)]
  · rw [Nat.min_eq_right (by omega), List.drop_of_length_le (Nat.le_refl _), List.drop_of_length_le (by omega)]
    simp
theorem cut_mid (xs : List V) {a b : Int} (h : 0 ≤ a) (h2 : 0 ≤ b) : cutV xs (some a) (some b) = (xs.drop a.toNat).take (b.toNat - a.toNat) := by
  unfold cutV
  rw [sIx_pos _ _ h, sIx_pos _ _ h2]
  by_cases ha : a.toNat ≤ xs.length
  · rw [Nat.min_eq_left ha]
    by_cases hb : b.toNat ≤ xs.length
    · rw [Nat.min_eq_left hb]
    · rw [Nat.min_eq_right (by omega), List.take_of_length_le (by rw [List.length_drop]; omega), List.take_of_length_le (by rw [List.length_drop]; omega)]
  · rw [Nat.min_eq_right (a := a.toNat) (by omega), List.drop_of_length_le (Nat.le_refl _), List.drop_of_length_le (by omega)]
    simp
theorem cutI_all (ns : List Int) : cutV (ns.map V.int) none none = ns.map V.int := cut_all _
theorem cutI_to (ns : List Int) {m : Int} (h : 0 ≤ m) : cutV (ns.map V.int) none (some m) = (ns.take m.toNat).map V.int := by rw [cut_to _ h, List.map_take]
theorem cutI_from (ns : List Int) {m : Int} (h : 0 ≤ m) : cutV (ns.map V.int) (some m) none = (ns.drop m.toNat).map V.int := by rw [cut_from _ h, List.map_drop]
theorem cutI_mid (ns : List Int) {a b : Int} (h : 0 ≤ a) (h2 : 0 ≤ b) : cutV (ns.map V.int) (some a) (some b) = ((ns.drop a.toNat).take (b.toNat - a.toNat)).map V.int := by
  rw [cut_mid _ h h2, List.map_take, List.map_drop]

/-! ### pairs made by list(enumerate(..)) -/
theorem NewPairs_of {H H1 H' : Hp} {cs : List (List V)} {p : Addr} {ts : List Addr} (s : Same H H1) (n : UrE.NewPairs H1 cs p ts H') : UrE.NewPairs H cs p ts H' := by
  obtain ⟨a, b, c, d, e⟩ := n
  exact ⟨s.trans a, s.free b, fun t ht => s.free (c t ht), d, e⟩
theorem same_new {H : Hp} {p : Addr} {o : HO} (h : H p = none) : Same H (upd H p o) := fun b u e => by
  rw [upd_ne (ne_of_none e h)]
  exact e
theorem sql_new {K : PySem.W.Frag} {H : Hp} {p b : Addr} {o : HO} {xs : List V} (h : H p = none) (q : SqL K H b xs) : SqL K (upd H p o) b xs := (same_new h).seq q
theorem sql_upd {K : PySem.W.Frag} {H : Hp} {p b : Addr} {o : HO} {xs : List V} (n : b ≠ p) (q : SqL K H b xs) : SqL K (upd H p o) b xs := by
  rcases q with (h | ⟨u, h⟩) | h
  · exact .inl (.inl ((upd_ne n).trans h))
  · exact .inl (.inr ⟨u, (upd_ne n).trans h⟩)
  · exact .inr h
/-- a change at what H0 does not know -/
theorem same_upd {H0 H : Hp} {p : Addr} {o : HO} (s : Same H0 H) (h : H0 p = none) : Same H0 (upd H p o) := fun b u e => by
  rw [upd_ne (ne_of_none e h)]
  exact s b u e
theorem upd_none {H : Hp} {a p : Addr} {o : HO} (h : upd H a o p = none) : H p = none := by
  by_cases e : p = a
  · rw [e, upd_same] at h; cases h
  · rw [upd_ne e] at h; exact h
theorem upd_none_ne {H : Hp} {a p : Addr} {o : HO} (h : upd H a o p = none) : p ≠ a := fun e => by rw [e, upd_same] at h; cases h
theorem upd_cutto {H : Hp} {a : Addr} {ns : List Int} {m : Int} (h : 0 ≤ m) : upd H a (.lst (cutV (ns.map V.int) none (some m))) a = some (.lst ((ns.take m.toNat).map V.int)) := by rw [cutI_to ns h, upd_same]
theorem upd_cutfrom {H : Hp} {a : Addr} {ns : List Int} {m : Int} (h : 0 ≤ m) : upd H a (.lst (cutV (ns.map V.int) (some m) none)) a = some (.lst ((ns.drop m.toNat).map V.int)) := by rw [cutI_from ns h, upd_same]
theorem upd_cutmid {H : Hp} {a : Addr} {ns : List Int} {m k : Int} (h : 0 ≤ m) (h2 : 0 ≤ k) : upd H a (.lst (cutV (ns.map V.int) (some m) (some k))) a = some (.lst (((ns.drop m.toNat).take (k.toNat - m.toNat)).map V.int)) := by rw [cutI_mid ns h h2, upd_same]
theorem upd_cutall {H : Hp} {a : Addr} {ns : List Int} : upd H a (.lst (cutV (ns.map V.int) none none)) a = some (.lst (ns.map V.int)) := by rw [cutI_all ns, upd_same]
end Ur

namespace Ur
open PySem L2 PyProof.Rows PySem.Spec
/-! ### the rules of a block, by the fragment alone -/
def rMax2 : List V → Hp → VK → Prop := fun xs H Q => ∃ i j, xs = [.int i, .int j] ∧ Q (.int (if j > i then j else i)) H
def rMin2 : List V → Hp → VK → Prop := fun xs H Q => ∃ i j, xs = [.int i, .int j] ∧ Q (.int (if j < i then j else i)) H
def rListOf (K : PySem.W.Frag) : List V → Hp → VK → Prop := fun xs H Q => ∃ p ys, xs = [.ref p] ∧ (SqL K H p ys ∨ SqT K H p ys) ∧ ∀ l, H l = none → Q (.ref l) (upd H l (.lst ys))
def rTupOf (K : PySem.W.Frag) : List V → Hp → VK → Prop := fun xs H Q => ∃ p ys, xs = [.ref p] ∧ ((SqL K H p ys ∧ ∀ l, H l = none → Q (.ref l) (upd H l (.tup ys))) ∨ (SqT K H p ys ∧ Q (.ref p) H))
theorem ix_listK {X : Cx} {K : PySem.W.Frag} (hk : X.K = K) : IxR X (rIxL K) := by subst hk; exact L2.ix_list
theorem ix_tupK {X : Cx} {K : PySem.W.Frag} (hk : X.K = K) : IxR X (rIxT K) := by subst hk; exact L2.ix_tup
theorem sl_listK {X : Cx} {K : PySem.W.Frag} (hk : X.K = K) : SlR X (rSlL K) := by subst hk; exact L2.sl_list
theorem sl_tupK {X : Cx} {K : PySem.W.Frag} (hk : X.K = K) : SlR X (rSlT K) := by subst hk; exact L2.sl_tup
theorem op_in_seqK {X : Cx} {K : PySem.W.Frag} (hk : X.K = K) : OpR X (compareOp .In) (rIn K false) := by subst hk; exact L2.op_in_seq
theorem op_notIn_seqK {X : Cx} {K : PySem.W.Frag} (hk : X.K = K) : OpR X (compareOp .NotIn) (rIn K true) := by subst hk; exact L2.op_notIn_seq
theorem call_lenIK {X : Cx} {K : PySem.W.Frag} (hk : X.K = K) : CallR X (.builtin "len") (rLenI K) := by subst hk; exact Ur.call_lenI
theorem call_isiK {X : Cx} {K : PySem.W.Frag} (hk : X.K = K) : CallR X (.builtin "isinstance") (rIsi K) := by subst hk; exact L2.call_isi
theorem cr_maxK {X : Cx} {K : PySem.W.Frag} (hk : X.K = K) (hc : X.calm = true) : CallR X (.builtin "max") (rMax K) := by subst hk; exact L2.cr_max hc
theorem cr_minK {X : Cx} {K : PySem.W.Frag} (hk : X.K = K) (hc : X.calm = true) : CallR X (.builtin "min") (rMin K) := by subst hk; exact L2.cr_min hc
theorem cr_sumK {X : Cx} {K : PySem.W.Frag} (hk : X.K = K) (hc : X.calm = true) : CallR X (.builtin "sum") (rSum K) := by subst hk; exact L2.cr_sum hc
theorem cr_anyK {X : Cx} {K : PySem.W.Frag} (hk : X.K = K) (hc : X.calm = true) : CallR X (.builtin "any") (rAny K) := by subst hk; exact L2.cr_any hc
theorem cr_allK {X : Cx} {K : PySem.W.Frag} (hk : X.K = K) (hc : X.calm = true) : CallR X (.builtin "all") (rAll K) := by subst hk; exact L2.cr_all hc
theorem op_eqDK {X : Cx} {K : PySem.W.Frag} (hk : X.K = K) (hu : X.A.units + 64 < cLine) : OpR X (compareOp .Eq) (rEqD K) := by subst hk; exact L2.op_eqD hu
theorem op_neDK {X : Cx} {K : PySem.W.Frag} (hk : X.K = K) (hu : X.A.units + 64 < cLine) : OpR X (compareOp .NotEq) (rNeD K) := by subst hk; exact L2.op_neD hu
theorem cr_sortedIK {X : Cx} {K : PySem.W.Frag} (hk : X.K = K) : CallR X (.builtin "sorted") (rSortedI K) := by subst hk; exact L2.cr_sortedI
theorem mt_indexK {X : Cx} {K : PySem.W.Frag} (hk : X.K = K) : MtR X "list.index" (rIndex K) := by subst hk; exact L2.mt_index
theorem call_max2K {X : Cx}  (hc : X.calm = true) : CallR X (.builtin "max") rMax2 := by exact L2.call_max2 hc
theorem call_min2K {X : Cx}  (hc : X.calm = true) : CallR X (.builtin "min") rMin2 := by exact L2.call_min2 hc
theorem call_list_ofK {X : Cx} {K : PySem.W.Frag} (hk : X.K = K) : CallR X (.type "list") (rListOf K) := by subst hk; exact L2.call_list_of
theorem call_tuple_ofK {X : Cx} {K : PySem.W.Frag} (hk : X.K = K) : CallR X (.type "tuple") (rTupOf K) := by subst hk; exact L2.call_tuple_of
theorem pe_fldK {X : Cx} {K : PySem.W.Frag} {e : Expr} {f : Str} {pos : Pos} {ta : TE} (hk : X.K = K) (he : PE X e ta) (hb : attributeBase e f X.env (eval e X.env) = eval e X.env) : PE X (.Attribute e f pos) (tFld K ta f) := by subst hk; exact L2.pe_fld he hb
theorem tNilI {σ : L2.St} {H : Hp} {Q : List V → Hp → Prop} (h : Q [] H) : tNil σ H Q := h
theorem tCi {v : V} {σ : L2.St} {H : Hp} {Q : VK} (h : Q v H) : tC v σ H Q := h
/-! bounds of lengths -/
theorem szT {m n : Nat} (h : m ≤ n) (k : n ≤ 1000000) : m ≤ sizeLine := sz (Nat.le_trans h k)
theorem szlT {m n : Nat} (h : m ≤ n) (k : n < 1000000) : m < sizeLine := szl (Nat.lt_of_le_of_lt h k)
theorem lb_map {α β : Type} {f : α → β} {l : List α} {n : Nat} (h : l.length ≤ n) : (l.map f).length ≤ n := by rw [List.length_map]; exact h
theorem lb_filter {α : Type} {f : α → Bool} {l : List α} {n : Nat} (h : l.length ≤ n) : (l.filter f).length ≤ n := Nat.le_trans (List.length_filter_le f l) h
theorem lb_app {α : Type} {l r : List α} {m n : Nat} (h : l.length ≤ m) (k : r.length ≤ n) : (l ++ r).length ≤ m + n := by rw [List.length_append]; exact Nat.add_le_add h k
theorem lb_cons {α : Type} {x : α} {l : List α} {n : Nat} (h : l.length ≤ n) : (x :: l).length ≤ n + 1 := Nat.succ_le_succ h
theorem lb_nil {α : Type} : ([] : List α).length ≤ 0 := Nat.le_refl 0
theorem lb_range {n : Nat} : (List.range n).length ≤ n := by rw [List.length_range]; exact Nat.le_refl n
theorem pos_app {α : Type} {x : α} {l : List α} : 0 < (l ++ [x]).length := by simp
theorem neg_same {α : Type} {x : α} [Decidable (x = x)] {A B : Prop} (h : B) : if (!decide (x = x)) = true then A else B := by
  rw [decide_eq_true rfl]
  exact h
theorem pos_same {α : Type} {x : α} [Decidable (x = x)] {A B : Prop} (h : A) : if decide (x = x) = true then A else B := by
  rw [decide_eq_true rfl]
  exact h
theorem isWN {α β : Type} {P : (Nat → α → β) → Prop} (h : ∃ W, P W) : ∃ W, P W := h
theorem sqlK {K K' : PySem.W.Frag} {H : Hp} {a : Addr} {xs : List V} (h : SqL K H a xs) (e : K = K') : SqL K' H a xs := e ▸ h
end Ur

namespace Ur
open PySem L2 PySem.Spec PyProof.Rows
/-! ### isinstance of known kinds -/
theorem kb_int_int : kitB "int" "int" = some true := by decide +kernel
theorem kb_int_bool : kitB "int" "bool" = some false := by decide +kernel
theorem kb_int_str : kitB "int" "str" = some false := by decide +kernel
theorem kb_int_list : kitB "int" "list" = some false := by decide +kernel
theorem kb_int_tuple : kitB "int" "tuple" = some false := by decide +kernel
theorem kb_int_dict : kitB "int" "dict" = some false := by decide +kernel
theorem kb_bool_int : kitB "bool" "int" = some true := by decide +kernel
theorem kb_bool_bool : kitB "bool" "bool" = some true := by decide +kernel
theorem kb_bool_str : kitB "bool" "str" = some false := by decide +kernel
theorem kb_bool_list : kitB "bool" "list" = some false := by decide +kernel
theorem kb_bool_tuple : kitB "bool" "tuple" = some false := by decide +kernel
theorem kb_bool_dict : kitB "bool" "dict" = some false := by decide +kernel
theorem kb_str_int : kitB "str" "int" = some false := by decide +kernel
theorem kb_str_bool : kitB "str" "bool" = some false := by decide +kernel
theorem kb_str_str : kitB "str" "str" = some true := by decide +kernel
theorem kb_str_list : kitB "str" "list" = some false := by decide +kernel
theorem kb_str_tuple : kitB "str" "tuple" = some false := by decide +kernel
theorem kb_str_dict : kitB "str" "dict" = some false := by decide +kernel
theorem kb_NoneType_int : kitB "NoneType" "int" = some false := by decide +kernel
theorem kb_NoneType_bool : kitB "NoneType" "bool" = some false := by decide +kernel
theorem kb_NoneType_str : kitB "NoneType" "str" = some false := by decide +kernel
theorem kb_NoneType_list : kitB "NoneType" "list" = some false := by decide +kernel
theorem kb_NoneType_tuple : kitB "NoneType" "tuple" = some false := by decide +kernel
theorem kb_NoneType_dict : kitB "NoneType" "dict" = some false := by decide +kernel
theorem kb_list_int : kitB "list" "int" = some false := by decide +kernel
theorem kb_list_bool : kitB "list" "bool" = some false := by decide +kernel
theorem kb_list_str : kitB "list" "str" = some false := by decide +kernel
theorem kb_list_list : kitB "list" "list" = some true := by decide +kernel
theorem kb_list_tuple : kitB "list" "tuple" = some false := by decide +kernel
theorem kb_list_dict : kitB "list" "dict" = some false := by decide +kernel
theorem kb_tuple_int : kitB "tuple" "int" = some false := by decide +kernel
theorem kb_tuple_bool : kitB "tuple" "bool" = some false := by decide +kernel
theorem kb_tuple_str : kitB "tuple" "str" = some false := by decide +kernel
theorem kb_tuple_list : kitB "tuple" "list" = some false := by decide +kernel
theorem kb_tuple_tuple : kitB "tuple" "tuple" = some true := by decide +kernel
theorem kb_tuple_dict : kitB "tuple" "dict" = some false := by decide +kernel
theorem kb_dict_int : kitB "dict" "int" = some false := by decide +kernel
theorem kb_dict_bool : kitB "dict" "bool" = some false := by decide +kernel
theorem kb_dict_str : kitB "dict" "str" = some false := by decide +kernel
theorem kb_dict_list : kitB "dict" "list" = some false := by decide +kernel
theorem kb_dict_tuple : kitB "dict" "tuple" = some false := by decide +kernel
theorem kb_dict_dict : kitB "dict" "dict" = some true := by decide +kernel
theorem isiK {K : PySem.W.Frag} {H : Hp} {x : V} {t T : String} {b : Bool} {Q : VK} (ty : TyX K H x (.type t)) (h : kitB t T = some b) (q : Q (.bl b) H) : rIsi K [x, .ty T] H Q :=
  ⟨x, .ty T, _, _, b, rfl, .ty _, ty, kit_ty h, q⟩
theorem tyx_lst {K : PySem.W.Frag} {H : Hp} {a : Addr} {xs : List V} (h : H a = some (.lst xs)) : TyX K H (.ref a) (.type "list") := .base (.lst h)
theorem tyx_tup {K : PySem.W.Frag} {H : Hp} {a : Addr} {xs : List V} (h : H a = some (.tup xs)) : TyX K H (.ref a) (.type "tuple") := .base (.tup h)
theorem tyx_dK {K : PySem.W.Frag} {H : Hp} {a : Addr} {xs : List (Key × V)} (h : H a = some (.dK xs)) : TyX K H (.ref a) (.type "dict") := .base (.dK h)
theorem tyx_int {K : PySem.W.Frag} {H : Hp} {i : Int} : TyX K H (.int i) (.type "int") := .base (.int i)
theorem tyx_bl {K : PySem.W.Frag} {H : Hp} {b : Bool} : TyX K H (.bl b) (.type "bool") := .base (.bl b)
theorem tyx_str {K : PySem.W.Frag} {H : Hp} {x : Str} : TyX K H (.str x) (.type "str") := .base (.str x)
theorem tyx_non {K : PySem.W.Frag} {H : Hp} : TyX K H .non (.type "NoneType") := .base .non
end Ur

namespace Ur
open PySem L2
/-! ### dicts with int keys -/
theorem isD_of {H : Hp} {a : Addr} {kvs : List (Key × V)} (h : H a = some (.dK kvs)) : IsD H a := Or.inl ⟨kvs, Or.inl h⟩
theorem dget_int {H : Hp} {a : Addr} {kvs : List (Key × V)} {n : Int} (h : H a = some (.dK kvs)) : DGet H a (.int n) (valV kvs (Sum.inl n)) := DGet.k (k := Sum.inl n) h
theorem dget_some {H : Hp} {a : Addr} {kvs : List (Key × V)} {n : Int} {v : V} (h : H a = some (.dK kvs)) (e : valV kvs (Sum.inl n) = some v) : DGet H a (.int n) (some v) := by
  rw [← e]
  exact dget_int h
theorem dput_int {H : Hp} {a : Addr} {kvs : List (Key × V)} {n : Int} {v : V} (h : H a = some (.dK kvs)) (l : kvs.length < sizeLine) : DPut H a (.int n) v (upd H a (.dK (putK kvs (Sum.inl n) v))) := DPut.k (k := Sum.inl n) h l
theorem putK_le (c : List (Key × V)) (k : Key) (x : V) : (putK c k x).length ≤ c.length + 1 := by
  unfold putK
  split
  · rw [List.length_map]; omega
  · rw [List.length_append]; exact Nat.le_refl _
theorem val_put (kvs : List (Key × V)) (k j : Int) (y : V) : valV (putK kvs (Sum.inl k) y) (Sum.inl j) = if j = k then some y else valV kvs (Sum.inl j) := by
  rw [valV_put]
  by_cases h : j = k
  · rw [if_pos h, if_pos (by rw [h])]
  · rw [if_neg h, if_neg (fun e => h (Sum.inl.inj e))]

/-! ### loops -/
section
variable {K : PySem.W.Frag} {a b : Addr} {xs ys : List V} {ns : List Int} {tb : TS} {D : Ends} {σ : L2.St} {H : Hp} {ti tv : Nat}
/-- for i, x in enumerate(list) -/
theorem for_enum (Pv : Nat → L2.St → Hp → Prop) (h0 : Pv 0 σ H) (hl : ∀ i σ H, i ≤ xs.length → Pv i σ H → SqL K H a xs)
    (hs : ∀ i x σ H H', xs[i]? = some x → Pv i σ H → Same H H' → tb { D with nx := Pv (i + 1), ct := Pv (i + 1), bk := D.nx } ((σ.set ti (some (.int (i : Nat)))).set tv (some x)) H') (hd : ∀ σ H, Pv xs.length σ H → D.nx σ H) :
    ∃ W : Nat → Nat → L2.St → Hp → Prop, (∃ m, W 0 m σ H) ∧ ∀ i m σ H, W i m σ H →
      ((Ite K a).stop i H ∧ D.nx σ H) ∨ ((Ite K a).go i H ∧ ∃ N : L2.St → Hp → Prop, (∀ σ' H', N σ' H' → ∃ m', m' < m ∧ W (i + 1) m' σ' H') ∧ ∀ x H', (Ite K a).yld i H x H' → gTup K 2 (gCons (gName ti) (gCons (gName tv) gNil)) x σ H' fun σ2 H2 => tb { D with nx := N, ct := N, bk := D.nx } σ2 H2) :=
  for_it (walk_enum (K := K) (a := a) (xs := xs)) Pv h0 hl (fun i v σ H H' hi p y => by
    obtain ⟨T, x, z, rfl, hT, rfl, hx, hz⟩ := y
    have hx' : some (V.int (i : Nat)) = some x := hx
    cases hx'
    have hz' : xs[i]? = some z := hz
    refine ⟨T, [.int (i : Nat), z], rfl, SqT.of upd_same, rfl, _, _, rfl, _, _, rfl, rfl, ?_⟩
    exact hs i z σ H _ hz' p (same_new hT)) hd
/-- for n in a list of ints -/
theorem for_ints (Pv : Nat → L2.St → Hp → Prop) (h0 : Pv 0 σ H) (hl : ∀ i σ H, i ≤ ns.length → Pv i σ H → SqL K H a (ns.map V.int))
    (hs : ∀ i n σ H, ns[i]? = some n → Pv i σ H → tb { D with nx := Pv (i + 1), ct := Pv (i + 1), bk := D.nx } (σ.set tv (some (.int n))) H) (hd : ∀ σ H, Pv ns.length σ H → D.nx σ H) :
    ∃ W : Nat → Nat → L2.St → Hp → Prop, (∃ m, W 0 m σ H) ∧ ∀ i m σ H, W i m σ H →
      ((Itl K a).stop i H ∧ D.nx σ H) ∨ ((Itl K a).go i H ∧ ∃ N : L2.St → Hp → Prop, (∀ σ' H', N σ' H' → ∃ m', m' < m ∧ W (i + 1) m' σ' H') ∧ ∀ x H', (Itl K a).yld i H x H' → gName tv x σ H' fun σ2 H2 => tb { D with nx := N, ct := N, bk := D.nx } σ2 H2) :=
  for_list (xs := ns.map V.int) Pv h0 (fun i σ H hi p => hl i σ H (by rw [List.length_map] at hi; exact hi) p) (fun i x σ H hx p => by
    obtain ⟨n, hn, rfl⟩ := iv_get hx
    exact hs i n σ H hn p) (fun σ H p => hd σ H (by rw [List.length_map] at p; exact p))
/-- while, the test's answer told; Pv by a measure -/
theorem while_ans {c : TT} (Pv : Nat → L2.St → Hp → Prop) (m0 : Nat) (h0 : Pv m0 σ H)
    (hs : ∀ m σ H, Pv m σ H → ∃ b, (∀ Q : Bool → Hp → Prop, Q b H → c σ H Q) ∧
      (b = true → tb { D with nx := fun σ' H' => ∃ m', m' < m ∧ Pv m' σ' H', ct := fun σ' H' => ∃ m', m' < m ∧ Pv m' σ' H', bk := D.nx } σ H) ∧ (b = false → D.nx σ H)) : tWhile c tb D σ H := by
  refine ⟨Pv, ⟨m0, h0⟩, fun m σ H p => ?_⟩
  obtain ⟨b, hb, h1, h2⟩ := hs m σ H p
  refine hb _ ?_
  cases b with
  | true => exact (if_pos rfl).mpr ⟨_, fun _ _ n => n, h1 rfl⟩
  | false => exact (if_neg Bool.false_ne_true).mpr (h2 rfl)
end

/-! ### comprehensions -/
section
variable {K : PySem.W.Frag} {a : Addr} {xs : List V} {ns : List Int} {σ : L2.St} {H1 : Hp} {Dl : Addr} {te : TE} {tt : TT} {vs : List Nat} {j : Nat} {lo : Int} {n : Nat} {Qd : Hp → Prop}
theorem tyes_ok {σ : L2.St} {H : Hp} {A B : Hp → Prop} (h : A H) : tYes σ H (fun b H3 => if b = true then A H3 else B H3) := by
  show (if true = true then A H else B H)
  rw [if_pos rfl]
  exact h
/-- [e for k in range(..)], e a value that leaves all as it was -/
theorem lc_rng (f : Nat → V) (hn : n ≤ 1000000) (hD : H1 Dl = none) (hw : ∀ x, wipe ((wipe σ vs).set j (some x)) vs = wipe σ vs)
    (he : ∀ (k : Nat) H', k < n → Same H1 H' → ∀ Q' : VK, (∀ H4, Same H' H4 → Q' (f k) H4) → te ((wipe σ vs).set j (some (.int (lo + (k : Nat))))) H' Q')
    (hd : ∀ H', Same H1 H' → H' Dl = some (.lst ((List.range n).map f)) → Qd H') :
    ∃ W : Nat → Nat → Hp → Prop, (∃ m, W 0 m (upd H1 Dl (.lst []))) ∧ ∀ i m H, W i m H →
      ((Itr lo n).stop i H ∧ Qd H) ∨ ((Itr lo n).go i H ∧ ∃ Nx : Hp → Prop, (∀ H', Nx H' → ∃ m', m' < m ∧ W (i + 1) m' H') ∧ ∀ x H', (Itr lo n).yld i H x H' → gName j x (wipe σ vs) H' fun σ2 H2 => wipe σ2 vs = wipe σ vs ∧ tYes σ2 H2 fun b H3 =>
        if b = true then te σ2 H3 fun y H4 => ∃ acc, H4 Dl = some (.lst acc) ∧ acc.length < sizeLine ∧ Nx (upd H4 Dl (.lst (acc ++ [y]))) else Nx H3) := by
  refine lc_range (lo := lo) (n := n) (fun i H' => Same H1 H' ∧ H' Dl = some (.lst ((List.range i).map f))) ⟨same_new hD, upd_same⟩ (fun i H' hi p => ?_) (fun H' p => hd H' p.1 p.2)
  refine ⟨hw _, ?_⟩
  refine tyes_ok ?_
  refine he i H' hi p.1 _ fun H4 s => ⟨_, s _ _ p.2, szl (by rw [List.length_map, List.length_range]; omega), same_upd' hD (p.1.trans s), ?_⟩
  rw [upd_same, List.range_succ, List.map_append]
  rfl
/-- [e for x in a list of ints] -/
theorem lc_ints (f : Int → V) (hn : ns.length ≤ 1000000) (ha : SqL K H1 a (ns.map V.int)) (hD : H1 Dl = none) (hw : ∀ x, wipe ((wipe σ vs).set j (some x)) vs = wipe σ vs)
    (he : ∀ (x : Int) H', x ∈ ns → Same H1 H' → ∀ Q' : VK, (∀ H4, Same H' H4 → Q' (f x) H4) → te ((wipe σ vs).set j (some (.int x))) H' Q')
    (hd : ∀ H', Same H1 H' → H' Dl = some (.lst (ns.map f)) → Qd H') :
    ∃ W : Nat → Nat → Hp → Prop, (∃ m, W 0 m (upd H1 Dl (.lst []))) ∧ ∀ i m H, W i m H →
      ((Itl K a).stop i H ∧ Qd H) ∨ ((Itl K a).go i H ∧ ∃ Nx : Hp → Prop, (∀ H', Nx H' → ∃ m', m' < m ∧ W (i + 1) m' H') ∧ ∀ x H', (Itl K a).yld i H x H' → gName j x (wipe σ vs) H' fun σ2 H2 => wipe σ2 vs = wipe σ vs ∧ tYes σ2 H2 fun b H3 =>
        if b = true then te σ2 H3 fun y H4 => ∃ acc, H4 Dl = some (.lst acc) ∧ acc.length < sizeLine ∧ Nx (upd H4 Dl (.lst (acc ++ [y]))) else Nx H3) := by
  refine lc_list (K := K) (a := a) (xs := ns.map V.int) (fun i H' => Same H1 H' ∧ H' Dl = some (.lst ((ns.take i).map f))) ⟨same_new hD, upd_same⟩ (fun i H' _ p => p.1.seq ha) (fun i x H' hx p => ?_) (fun H' p => ?_)
  · obtain ⟨z, hz, rfl⟩ := iv_get hx
    have hi := (List.getElem?_eq_some_iff.mp hz).1
    refine ⟨hw _, ?_⟩
    refine tyes_ok ?_
    refine he z H' (List.mem_of_getElem? hz) p.1 _ fun H4 s => ⟨_, s _ _ p.2, szl (by rw [List.length_map, List.length_take]; omega), same_upd' hD (p.1.trans s), ?_⟩
    rw [upd_same, List.take_add_one, hz, List.map_append]
    rfl
  · have h2 := p.2
    rw [List.length_map, List.take_length] at h2
    exact hd H' p.1 h2
/-- [e for k in range(..) if t] -/
theorem lc_rngIf (t : Nat → Bool) (f : Nat → V) (hn : n ≤ 1000000) (hD : H1 Dl = none) (hw : ∀ x, wipe ((wipe σ vs).set j (some x)) vs = wipe σ vs)
    (ht : ∀ (k : Nat) H', k < n → Same H1 H' → ∀ Q' : Bool → Hp → Prop, (∀ H4, Same H' H4 → Q' (t k) H4) → tt ((wipe σ vs).set j (some (.int (lo + (k : Nat))))) H' Q')
    (he : ∀ (k : Nat) H', k < n → t k = true → Same H1 H' → ∀ Q' : VK, (∀ H4, Same H' H4 → Q' (f k) H4) → te ((wipe σ vs).set j (some (.int (lo + (k : Nat))))) H' Q')
    (hd : ∀ H', Same H1 H' → H' Dl = some (.lst (((List.range n).filter t).map f)) → Qd H') :
    ∃ W : Nat → Nat → Hp → Prop, (∃ m, W 0 m (upd H1 Dl (.lst []))) ∧ ∀ i m H, W i m H →
      ((Itr lo n).stop i H ∧ Qd H) ∨ ((Itr lo n).go i H ∧ ∃ Nx : Hp → Prop, (∀ H', Nx H' → ∃ m', m' < m ∧ W (i + 1) m' H') ∧ ∀ x H', (Itr lo n).yld i H x H' → gName j x (wipe σ vs) H' fun σ2 H2 => wipe σ2 vs = wipe σ vs ∧ tt σ2 H2 fun b H3 =>
        if b = true then te σ2 H3 fun y H4 => ∃ acc, H4 Dl = some (.lst acc) ∧ acc.length < sizeLine ∧ Nx (upd H4 Dl (.lst (acc ++ [y]))) else Nx H3) := by
  refine lc_range (lo := lo) (n := n) (fun i H' => Same H1 H' ∧ H' Dl = some (.lst (((List.range i).filter t).map f))) ⟨same_new hD, upd_same⟩ (fun i H' hi p => ?_) (fun H' p => hd H' p.1 p.2)
  refine ⟨hw _, ?_⟩
  refine ht i H' hi p.1 _ fun H3 s3 => ?_
  cases hb : t i with
  | true =>
    refine (if_pos rfl).mpr ?_
    refine he i H3 hi hb (p.1.trans s3) _ fun H4 s => ⟨_, s _ _ (s3 _ _ p.2), szl ?_, same_upd' hD ((p.1.trans s3).trans s), ?_⟩
    · have := List.length_filter_le t (List.range i)
      rw [List.length_range] at this
      rw [List.length_map]; omega
    rw [upd_same, List.range_succ, List.filter_append, List.map_append, List.filter_cons, if_pos hb]
    rfl
  | false =>
    refine (if_neg Bool.false_ne_true).mpr ⟨p.1.trans s3, ?_⟩
    rw [List.range_succ, List.filter_append, List.map_append, List.filter_cons, if_neg (by rw [hb]; exact Bool.false_ne_true)]
    simpa using s3 _ _ p.2
/-- [e for x in a list of ints if t] -/
theorem lc_intsIf (t : Int → Bool) (f : Int → V) (hn : ns.length ≤ 1000000) (ha : SqL K H1 a (ns.map V.int)) (hD : H1 Dl = none) (hw : ∀ x, wipe ((wipe σ vs).set j (some x)) vs = wipe σ vs)
    (ht : ∀ (x : Int) H', x ∈ ns → Same H1 H' → ∀ Q' : Bool → Hp → Prop, (∀ H4, Same H' H4 → Q' (t x) H4) → tt ((wipe σ vs).set j (some (.int x))) H' Q')
    (he : ∀ (x : Int) H', x ∈ ns → t x = true → Same H1 H' → ∀ Q' : VK, (∀ H4, Same H' H4 → Q' (f x) H4) → te ((wipe σ vs).set j (some (.int x))) H' Q')
    (hd : ∀ H', Same H1 H' → H' Dl = some (.lst ((ns.filter t).map f)) → Qd H') :
    ∃ W : Nat → Nat → Hp → Prop, (∃ m, W 0 m (upd H1 Dl (.lst []))) ∧ ∀ i m H, W i m H →
      ((Itl K a).stop i H ∧ Qd H) ∨ ((Itl K a).go i H ∧ ∃ Nx : Hp → Prop, (∀ H', Nx H' → ∃ m', m' < m ∧ W (i + 1) m' H') ∧ ∀ x H', (Itl K a).yld i H x H' → gName j x (wipe σ vs) H' fun σ2 H2 => wipe σ2 vs = wipe σ vs ∧ tt σ2 H2 fun b H3 =>
        if b = true then te σ2 H3 fun y H4 => ∃ acc, H4 Dl = some (.lst acc) ∧ acc.length < sizeLine ∧ Nx (upd H4 Dl (.lst (acc ++ [y]))) else Nx H3) := by
  refine lc_list (K := K) (a := a) (xs := ns.map V.int) (fun i H' => Same H1 H' ∧ H' Dl = some (.lst (((ns.take i).filter t).map f))) ⟨same_new hD, upd_same⟩ (fun i H' _ p => p.1.seq ha) (fun i x H' hx p => ?_) (fun H' p => ?_)
  · obtain ⟨z, hz, rfl⟩ := iv_get hx
    have hi := (List.getElem?_eq_some_iff.mp hz).1
    have hm := List.mem_of_getElem? hz
    refine ⟨hw _, ?_⟩
    refine ht z H' hm p.1 _ fun H3 s3 => ?_
    have e1 : ns.take (i + 1) = ns.take i ++ [z] := by rw [List.take_add_one, hz]; rfl
    cases hb : t z with
    | true =>
      refine (if_pos rfl).mpr ?_
      refine he z H3 hm hb (p.1.trans s3) _ fun H4 s => ⟨_, s _ _ (s3 _ _ p.2), szl ?_, same_upd' hD ((p.1.trans s3).trans s), ?_⟩
      · have := List.length_filter_le t (ns.take i)
        rw [List.length_take] at this
        rw [List.length_map]; omega
      rw [upd_same, e1, List.filter_append, List.map_append, List.filter_cons, if_pos hb]
      rfl
    | false =>
      refine (if_neg Bool.false_ne_true).mpr ⟨p.1.trans s3, ?_⟩
      rw [e1, List.filter_append, List.map_append, List.filter_cons, if_neg (by rw [hb]; exact Bool.false_ne_true)]
      simpa using s3 _ _ p.2
  · have h2 := p.2
    rw [List.length_map, List.take_length] at h2
    exact hd H' p.1 h2
/-- [e for x in a list if t], t never -/
theorem lc_none (ha : SqL K H1 a xs) (hD : H1 Dl = none) (hw : ∀ x, wipe ((wipe σ vs).set j (some x)) vs = wipe σ vs)
    (ht : ∀ (x : V) H', x ∈ xs → Same H1 H' → ∀ Q' : Bool → Hp → Prop, (∀ H4, Same H' H4 → Q' false H4) → tt ((wipe σ vs).set j (some x)) H' Q')
    (hd : ∀ H', Same H1 H' → H' Dl = some (.lst []) → Qd H') :
    ∃ W : Nat → Nat → Hp → Prop, (∃ m, W 0 m (upd H1 Dl (.lst []))) ∧ ∀ i m H, W i m H →
      ((Itl K a).stop i H ∧ Qd H) ∨ ((Itl K a).go i H ∧ ∃ Nx : Hp → Prop, (∀ H', Nx H' → ∃ m', m' < m ∧ W (i + 1) m' H') ∧ ∀ x H', (Itl K a).yld i H x H' → gName j x (wipe σ vs) H' fun σ2 H2 => wipe σ2 vs = wipe σ vs ∧ tt σ2 H2 fun b H3 =>
        if b = true then te σ2 H3 fun y H4 => ∃ acc, H4 Dl = some (.lst acc) ∧ acc.length < sizeLine ∧ Nx (upd H4 Dl (.lst (acc ++ [y]))) else Nx H3) := by
  refine lc_list (K := K) (a := a) (xs := xs) (fun _ H' => Same H1 H' ∧ H' Dl = some (.lst [])) ⟨same_new hD, upd_same⟩ (fun i H' _ p => p.1.seq ha) (fun i x H' hx p => ?_) (fun H' p => hd H' p.1 p.2)
  refine ⟨hw _, ?_⟩
  refine ht x H' (List.mem_of_getElem? hx) p.1 _ fun H3 s3 => ?_
  exact (if_neg Bool.false_ne_true).mpr ⟨p.1.trans s3, s3 _ _ p.2⟩
end
/-! the same, the items ints -/
section
variable {K : PySem.W.Frag} {a : Addr} {xs : List V} {ns : List Int} {σ : L2.St} {H1 : Hp} {Dl : Addr} {te : TE} {tt : TT} {vs : List Nat} {j : Nat} {lo : Int} {n : Nat} {Qd : Hp → Prop}
theorem lc_rngI (f : Nat → Int) (hn : n ≤ 1000000) (hD : H1 Dl = none) (hw : ∀ x, wipe ((wipe σ vs).set j (some x)) vs = wipe σ vs)
    (he : ∀ (k : Nat) H', k < n → Same H1 H' → ∀ Q' : VK, (∀ H4, Same H' H4 → Q' (.int (f k)) H4) → te ((wipe σ vs).set j (some (.int (lo + (k : Nat))))) H' Q')
    (hd : ∀ H', Same H1 H' → H' Dl = some (.lst (((List.range n).map f).map V.int)) → Qd H') :
    ∃ W : Nat → Nat → Hp → Prop, (∃ m, W 0 m (upd H1 Dl (.lst []))) ∧ ∀ i m H, W i m H →
      ((Itr lo n).stop i H ∧ Qd H) ∨ ((Itr lo n).go i H ∧ ∃ Nx : Hp → Prop, (∀ H', Nx H' → ∃ m', m' < m ∧ W (i + 1) m' H') ∧ ∀ x H', (Itr lo n).yld i H x H' → gName j x (wipe σ vs) H' fun σ2 H2 => wipe σ2 vs = wipe σ vs ∧ tYes σ2 H2 fun b H3 =>
        if b = true then te σ2 H3 fun y H4 => ∃ acc, H4 Dl = some (.lst acc) ∧ acc.length < sizeLine ∧ Nx (upd H4 Dl (.lst (acc ++ [y]))) else Nx H3) :=
  lc_rng (fun k => V.int (f k)) hn hD hw he fun H' s e => hd H' s (by rw [e, List.map_map]; rfl)
theorem lc_intsI (f : Int → Int) (hn : ns.length ≤ 1000000) (ha : SqL K H1 a (ns.map V.int)) (hD : H1 Dl = none) (hw : ∀ x, wipe ((wipe σ vs).set j (some x)) vs = wipe σ vs)
    (he : ∀ (x : Int) H', x ∈ ns → Same H1 H' → ∀ Q' : VK, (∀ H4, Same H' H4 → Q' (.int (f x)) H4) → te ((wipe σ vs).set j (some (.int x))) H' Q')
    (hd : ∀ H', Same H1 H' → H' Dl = some (.lst ((ns.map f).map V.int)) → Qd H') :
    ∃ W : Nat → Nat → Hp → Prop, (∃ m, W 0 m (upd H1 Dl (.lst []))) ∧ ∀ i m H, W i m H →
      ((Itl K a).stop i H ∧ Qd H) ∨ ((Itl K a).go i H ∧ ∃ Nx : Hp → Prop, (∀ H', Nx H' → ∃ m', m' < m ∧ W (i + 1) m' H') ∧ ∀ x H', (Itl K a).yld i H x H' → gName j x (wipe σ vs) H' fun σ2 H2 => wipe σ2 vs = wipe σ vs ∧ tYes σ2 H2 fun b H3 =>
        if b = true then te σ2 H3 fun y H4 => ∃ acc, H4 Dl = some (.lst acc) ∧ acc.length < sizeLine ∧ Nx (upd H4 Dl (.lst (acc ++ [y]))) else Nx H3) :=
  lc_ints (fun k => V.int (f k)) hn ha hD hw he fun H' s e => hd H' s (by rw [e, List.map_map]; rfl)
theorem lc_rngIfI (t : Nat → Bool) (f : Nat → Int) (hn : n ≤ 1000000) (hD : H1 Dl = none) (hw : ∀ x, wipe ((wipe σ vs).set j (some x)) vs = wipe σ vs)
    (ht : ∀ (k : Nat) H', k < n → Same H1 H' → ∀ Q' : Bool → Hp → Prop, (∀ H4, Same H' H4 → Q' (t k) H4) → tt ((wipe σ vs).set j (some (.int (lo + (k : Nat))))) H' Q')
    (he : ∀ (k : Nat) H', k < n → t k = true → Same H1 H' → ∀ Q' : VK, (∀ H4, Same H' H4 → Q' (.int (f k)) H4) → te ((wipe σ vs).set j (some (.int (lo + (k : Nat))))) H' Q')
    (hd : ∀ H', Same H1 H' → H' Dl = some (.lst ((((List.range n).filter t).map f).map V.int)) → Qd H') :
    ∃ W : Nat → Nat → Hp → Prop, (∃ m, W 0 m (upd H1 Dl (.lst []))) ∧ ∀ i m H, W i m H →
      ((Itr lo n).stop i H ∧ Qd H) ∨ ((Itr lo n).go i H ∧ ∃ Nx : Hp → Prop, (∀ H', Nx H' → ∃ m', m' < m ∧ W (i + 1) m' H') ∧ ∀ x H', (Itr lo n).yld i H x H' → gName j x (wipe σ vs) H' fun σ2 H2 => wipe σ2 vs = wipe σ vs ∧ tt σ2 H2 fun b H3 =>
        if b = true then te σ2 H3 fun y H4 => ∃ acc, H4 Dl = some (.lst acc) ∧ acc.length < sizeLine ∧ Nx (upd H4 Dl (.lst (acc ++ [y]))) else Nx H3) :=
  lc_rngIf t (fun k => V.int (f k)) hn hD hw ht he fun H' s e => hd H' s (by rw [e, List.map_map]; rfl)
theorem lc_intsIfI (t : Int → Bool) (f : Int → Int) (hn : ns.length ≤ 1000000) (ha : SqL K H1 a (ns.map V.int)) (hD : H1 Dl = none) (hw : ∀ x, wipe ((wipe σ vs).set j (some x)) vs = wipe σ vs)
    (ht : ∀ (x : Int) H', x ∈ ns → Same H1 H' → ∀ Q' : Bool → Hp → Prop, (∀ H4, Same H' H4 → Q' (t x) H4) → tt ((wipe σ vs).set j (some (.int x))) H' Q')
    (he : ∀ (x : Int) H', x ∈ ns → t x = true → Same H1 H' → ∀ Q' : VK, (∀ H4, Same H' H4 → Q' (.int (f x)) H4) → te ((wipe σ vs).set j (some (.int x))) H' Q')
    (hd : ∀ H', Same H1 H' → H' Dl = some (.lst (((ns.filter t).map f).map V.int)) → Qd H') :
    ∃ W : Nat → Nat → Hp → Prop, (∃ m, W 0 m (upd H1 Dl (.lst []))) ∧ ∀ i m H, W i m H →
      ((Itl K a).stop i H ∧ Qd H) ∨ ((Itl K a).go i H ∧ ∃ Nx : Hp → Prop, (∀ H', Nx H' → ∃ m', m' < m ∧ W (i + 1) m' H') ∧ ∀ x H', (Itl K a).yld i H x H' → gName j x (wipe σ vs) H' fun σ2 H2 => wipe σ2 vs = wipe σ vs ∧ tt σ2 H2 fun b H3 =>
        if b = true then te σ2 H3 fun y H4 => ∃ acc, H4 Dl = some (.lst acc) ∧ acc.length < sizeLine ∧ Nx (upd H4 Dl (.lst (acc ++ [y]))) else Nx H3) :=
  lc_intsIf t (fun k => V.int (f k)) hn ha hD hw ht he fun H' s e => hd H' s (by rw [e, List.map_map]; rfl)
end
/-! the same, a state at a changing with each item: S tells what it may be, R the items -/
section
variable {K : PySem.W.Frag} {a st : Addr} {xs : List V} {ns : List Int} {σ : L2.St} {H1 : Hp} {Dl : Addr} {te : TE} {tt : TT} {vs : List Nat} {j : Nat} {lo : Int} {n : Nat} {Qd : Hp → Prop}
theorem lc_rngS (S : HO → Prop) (R : Int → Prop) {o1 : HO} (ha : H1 st = some o1) (hS : S o1) (hn : n ≤ 1000000) (hD : H1 Dl = none) (hw : ∀ x, wipe ((wipe σ vs).set j (some x)) vs = wipe σ vs)
    (he : ∀ (k : Nat) H' o, k < n → But st H1 H' → H' st = some o → S o → ∀ Q' : VK, (∀ v H4 o4, R v → But st H' H4 → H4 st = some o4 → S o4 → Q' (.int v) H4) → te ((wipe σ vs).set j (some (.int (lo + (k : Nat))))) H' Q')
    (hd : ∀ H' (ms : List Int) o, ms.length = n → (∀ x ∈ ms, R x) → But st H1 H' → H' Dl = some (.lst (ms.map V.int)) → H' st = some o → S o → Qd H') :
    ∃ W : Nat → Nat → Hp → Prop, (∃ m, W 0 m (upd H1 Dl (.lst []))) ∧ ∀ i m H, W i m H →
      ((Itr lo n).stop i H ∧ Qd H) ∨ ((Itr lo n).go i H ∧ ∃ Nx : Hp → Prop, (∀ H', Nx H' → ∃ m', m' < m ∧ W (i + 1) m' H') ∧ ∀ x H', (Itr lo n).yld i H x H' → gName j x (wipe σ vs) H' fun σ2 H2 => wipe σ2 vs = wipe σ vs ∧ tYes σ2 H2 fun b H3 =>
        if b = true then te σ2 H3 fun y H4 => ∃ acc, H4 Dl = some (.lst acc) ∧ acc.length < sizeLine ∧ Nx (upd H4 Dl (.lst (acc ++ [y]))) else Nx H3) := by
  have hne : Dl ≠ st := (ne_of_none ha hD).symm
  refine lc_range (lo := lo) (n := n) (fun i H' => ∃ (ms : List Int) (o : HO), H' Dl = some (.lst (ms.map V.int)) ∧ H' st = some o ∧ S o ∧ But st H1 H' ∧ ms.length = i ∧ ∀ x ∈ ms, R x)
    ⟨[], o1, upd_same, (upd_ne hne.symm).trans ha, hS, but_snoc hD but_refl, rfl, fun _ h => by cases h⟩ (fun i H' hi p => ?_) (fun H' p => ?_)
  · obtain ⟨ms, o, e1, e2, e3, e4, e5, e6⟩ := p
    refine ⟨hw _, ?_⟩
    refine tyes_ok ?_
    refine he i H' o hi e4 e2 e3 _ fun v H4 o4 rv b4 s4 z4 => ⟨_, b4 _ _ hne e1, szl (by rw [List.length_map]; omega), ms ++ [v], o4, upd_snoc, (upd_ne hne.symm).trans s4, z4, but_upd hD (but_step b4 e4), by rw [List.length_append, e5]; rfl, fun x hx => ?_⟩
    rcases List.mem_append.mp hx with h | h
    · exact e6 x h
    · rw [List.mem_singleton.mp h]; exact rv
  · obtain ⟨ms, o, e1, e2, e3, e4, e5, e6⟩ := p
    exact hd H' ms o e5 e6 e4 e1 e2 e3
end
end Ur

namespace Ur
open PySem L2
structure HandOk (d m : Int) : Prop where
  d0 : 0 ≤ d
  m0 : 0 ≤ m
  m1 : m < 2147483587
end Ur

namespace Ur
open PySem L2
/-! ### last and next places: the plain functions -/
/-- the greatest place below i with the number x, or -1 -/
def lastAt (ns : List Int) : Nat → Int → Int
  | 0, _ => -1
  | i + 1, x => if ns.getD i 0 = x then (i : Int) else lastAt ns i x
def lastP (ns : List Int) : List Int := (List.range ns.length).map fun k => lastAt ns k (ns.getD k 0)
theorem lastP_len (ns : List Int) : (lastP ns).length = ns.length := by simp [lastP]
theorem lastP_get {ns : List Int} {k : Nat} (h : k < ns.length) : (lastP ns)[k]? = some (lastAt ns k (ns.getD k 0)) := by
  unfold lastP
  rw [List.getElem?_map, List.getElem?_range h]
  rfl
theorem lastP_take {ns : List Int} {i : Nat} (h : i < ns.length) : (lastP ns).take (i + 1) = (lastP ns).take i ++ [lastAt ns i (ns.getD i 0)] := by
  rw [List.take_add_one, lastP_get h]
  rfl
theorem lastAt_spec (ns : List Int) (x : Int) : ∀ i : Nat, (lastAt ns i x = -1 ∧ ∀ j, j < i → ns.getD j 0 ≠ x) ∨ ∃ v : Nat, lastAt ns i x = v ∧ v < i ∧ ns.getD v 0 = x ∧ ∀ j, v < j → j < i → ns.getD j 0 ≠ x
  | 0 => Or.inl ⟨rfl, fun _ h => absurd h (Nat.not_lt_zero _)⟩
  | i + 1 => by
    by_cases h : ns.getD i 0 = x
    · refine Or.inr ⟨i, ?_, Nat.lt_succ_self _, h, fun j h1 h2 => by omega⟩
      show (if ns.getD i 0 = x then (i : Int) else lastAt ns i x) = i
      rw [if_pos h]
    · have e : lastAt ns (i + 1) x = lastAt ns i x := by
        show (if ns.getD i 0 = x then (i : Int) else lastAt ns i x) = _
        rw [if_neg h]
      rcases lastAt_spec ns x i with ⟨h1, h2⟩ | ⟨v, h1, h2, h3, h4⟩
      · refine Or.inl ⟨e.trans h1, fun j hj => ?_⟩
        by_cases hji : j = i
        · rw [hji]; exact h
        · exact h2 j (by omega)
      · refine Or.inr ⟨v, e.trans h1, by omega, h3, fun j hj1 hj2 => ?_⟩
        by_cases hji : j = i
        · rw [hji]; exact h
        · exact h4 j hj1 (by omega)
theorem lastAt_range (ns : List Int) (x : Int) (i : Nat) : -1 ≤ lastAt ns i x ∧ lastAt ns i x < i := by
  rcases lastAt_spec ns x i with ⟨h1, _⟩ | ⟨v, h1, h2, _⟩ <;> omega
/-- what is it and nothing greater -/
theorem lastAt_uniq {ns : List Int} {x : Int} {i : Nat} {m : Int} (h1 : m = -1 ∨ ∃ v : Nat, m = v ∧ v < i ∧ ns.getD v 0 = x) (h2 : ∀ j : Nat, j < i → ns.getD j 0 = x → (j : Int) ≤ m) : lastAt ns i x = m := by
  rcases lastAt_spec ns x i with ⟨a1, a2⟩ | ⟨v, a1, a2, a3, a4⟩
  · rcases h1 with e | ⟨v, e, hv, hx⟩
    · omega
    · exact absurd hx (a2 v hv)
  · have q := h2 v a2 a3
    rcases h1 with e | ⟨u, e, hu, hx⟩
    · omega
    · by_cases huv : v < u
      · exact absurd hx (a4 u huv hu)
      · omega
/-- the least place above k, below i, with k's number, or the length -/
def nextUp (ns : List Int) (k : Nat) : Nat → Int
  | 0 => ns.length
  | i + 1 => if nextUp ns k i < ns.length then nextUp ns k i else if k < i ∧ ns.getD i 0 = ns.getD k 0 then (i : Int) else ns.length
def nextP (ns : List Int) : List Int := (List.range ns.length).map fun k => nextUp ns k ns.length
theorem nextP_len (ns : List Int) : (nextP ns).length = ns.length := by simp [nextP]
theorem nextP_get {ns : List Int} {k : Nat} (h : k < ns.length) : (nextP ns)[k]? = some (nextUp ns k ns.length) := by
  unfold nextP
  rw [List.getElem?_map, List.getElem?_range h]
  rfl
theorem nextUp_spec (ns : List Int) (k : Nat) : ∀ i : Nat, i ≤ ns.length → (nextUp ns k i = ns.length ∧ ∀ j, k < j → j < i → ns.getD j 0 ≠ ns.getD k 0) ∨ ∃ v : Nat, nextUp ns k i = v ∧ k < v ∧ v < i ∧ ns.getD v 0 = ns.getD k 0 ∧ ∀ j, k < j → j < v → ns.getD j 0 ≠ ns.getD k 0
  | 0, _ => Or.inl ⟨rfl, fun _ _ h => absurd h (Nat.not_lt_zero _)⟩
  | i + 1, hi => by
    have e : nextUp ns k (i + 1) = if nextUp ns k i < ns.length then nextUp ns k i else if k < i ∧ ns.getD i 0 = ns.getD k 0 then (i : Int) else ns.length := rfl
    rcases nextUp_spec ns k i (by omega) with ⟨h1, h2⟩ | ⟨v, h1, h2, h3, h4, h5⟩
    · rw [if_neg (by omega)] at e
      by_cases h : k < i ∧ ns.getD i 0 = ns.getD k 0
      · rw [if_pos h] at e
        exact Or.inr ⟨i, e, h.1, Nat.lt_succ_self _, h.2, h2⟩
      · rw [if_neg h] at e
        refine Or.inl ⟨e, fun j hj1 hj2 => ?_⟩
        by_cases hji : j = i
        · rw [hji]; exact fun z => h ⟨by omega, z⟩
        · exact h2 j hj1 (by omega)
    · rw [if_pos (by omega)] at e
      exact Or.inr ⟨v, e.trans h1, h2, by omega, h4, h5⟩
theorem nextUp_uniq {ns : List Int} {k i : Nat} (hi : i ≤ ns.length) {m : Int} (h1 : m = ns.length ∨ ∃ v : Nat, m = v ∧ k < v ∧ v < i ∧ ns.getD v 0 = ns.getD k 0) (h2 : ∀ j : Nat, k < j → j < i → ns.getD j 0 = ns.getD k 0 → m ≤ (j : Int)) (h3 : m ≤ ns.length) : nextUp ns k i = m := by
  rcases nextUp_spec ns k i hi with ⟨a1, a2⟩ | ⟨v, a1, a2, a3, a4, a5⟩
  · rcases h1 with e | ⟨v, e, hv, hv2, hx⟩
    · omega
    · exact absurd hx (a2 v hv hv2)
  · have q := h2 v a2 a3 a4
    rcases h1 with e | ⟨u, e, hu, hu2, hx⟩
    · omega
    · by_cases huv : u < v
      · exact absurd hx (a5 u hu huv)
      · omega
/-- one place on: the next place of k is i just where k is i's last place -/
theorem nextUp_step {ns : List Int} {k i : Nat} (hi : i < ns.length) (hk : k < ns.length) : nextUp ns k (i + 1) = if lastAt ns i (ns.getD i 0) = (k : Int) then (i : Int) else nextUp ns k i := by
  have e : nextUp ns k (i + 1) = if nextUp ns k i < ns.length then nextUp ns k i else if k < i ∧ ns.getD i 0 = ns.getD k 0 then (i : Int) else ns.length := rfl
  rw [e]
  rcases nextUp_spec ns k i (by omega) with ⟨a1, a2⟩ | ⟨v, a1, a2, a3, a4, a5⟩
  · rw [if_neg (by omega)]
    by_cases h : k < i ∧ ns.getD i 0 = ns.getD k 0
    · rw [if_pos h, if_pos]
      refine lastAt_uniq (Or.inr ⟨k, rfl, h.1, h.2.symm⟩) fun j hj hx => ?_
      by_cases hkj : k < j
      · exact absurd (hx.trans h.2) (a2 j hkj hj)
      · omega
    · rw [if_neg h, if_neg, a1]
      intro q
      rcases lastAt_spec ns (ns.getD i 0) i with ⟨b1, _⟩ | ⟨u, b1, b2, b3, _⟩
      · omega
      · have : u = k := by omega
        subst this
        exact h ⟨b2, b3.symm⟩
  · rw [if_pos (by omega), if_neg]
    intro q
    rcases lastAt_spec ns (ns.getD i 0) i with ⟨b1, _⟩ | ⟨u, b1, b2, b3, b4⟩
    · omega
    · have : u = k := by omega
      subst this
      exact b4 v a2 a3 (a4.trans b3)
theorem getD_of {ns : List Int} {i : Nat} {n : Int} (h : ns[i]? = some n) : ns.getD i 0 = n := by
  rw [List.getD_eq_getElem?_getD, h]; rfl
theorem get_of {ns : List Int} {i : Nat} (h : i < ns.length) : ns[i]? = some (ns.getD i 0) := by
  rw [List.getD_eq_getElem?_getD, List.getElem?_eq_getElem h]; rfl
theorem ext_getD {ns ms : List Int} (hl : ns.length = ms.length) (h : ∀ i, i < ns.length → ns.getD i 0 = ms.getD i 0) : ns = ms := by
  refine List.ext_getElem? fun i => ?_
  by_cases hi : i < ns.length
  · rw [get_of hi, get_of (by omega), h i hi]
  · rw [List.getElem?_eq_none (by omega), List.getElem?_eq_none (by omega)]
/-- a list of ints at an address, its items told otherwise -/
theorem lst_cast {H : Hp} {a : Addr} {xs ys : List V} (h : H a = some (.lst xs)) (e : xs = ys) : H a = some (.lst ys) := by rw [h, e]
/-! what the laws' own ways of reckoning come to -/
theorem tn0 (k : Nat) : ((0 : Int) + (k : Int)).toNat = k := by omega
theorem dvi {a b : Int} : decide (V.int a = V.int b) = decide (a = b) := by
  by_cases h : a = b
  · rw [h]; simp
  · rw [decide_eq_false h]
    exact decide_eq_false (fun e => h (V.int.inj e))
theorem lasts_max {ns : List Int} {k : Nat} {m : Int}
    (h1 : m ∈ (-1 : Int) :: ((List.range ((0 : Int) + (k : Int)).toNat).filter fun j : Nat => decide (V.int (ns.getD ((0 : Int) + (j : Int)).toNat 0) = V.int (ns.getD ((0 : Int) + (k : Int)).toNat 0))).map fun j : Nat => (0 : Int) + (j : Int))
    (h2 : ∀ x ∈ (-1 : Int) :: ((List.range ((0 : Int) + (k : Int)).toNat).filter fun j : Nat => decide (V.int (ns.getD ((0 : Int) + (j : Int)).toNat 0) = V.int (ns.getD ((0 : Int) + (k : Int)).toNat 0))).map fun j : Nat => (0 : Int) + (j : Int), x ≤ m) :
    lastAt ns k (ns.getD k 0) = m := by
  simp only [tn0, dvi] at h1 h2
  refine lastAt_uniq ?_ (fun j hj e => ?_)
  · rcases List.mem_cons.mp h1 with e | e
    · exact Or.inl e
    · obtain ⟨j, hj, rfl⟩ := List.mem_map.mp e
      obtain ⟨hj1, hj2⟩ := List.mem_filter.mp hj
      exact Or.inr ⟨j, by omega, List.mem_range.mp hj1, of_decide_eq_true hj2⟩
  · have h := h2 (0 + (j : Int)) (List.mem_cons_of_mem _ (List.mem_map.mpr ⟨j, List.mem_filter.mpr ⟨List.mem_range.mpr hj, decide_eq_true e⟩, rfl⟩))
    omega
theorem tn1 (n k : Nat) : ((n : Int) - ((0 : Int) + (k : Int) + 1)).toNat = n - (k + 1) := by omega
theorem tn2 (k j : Nat) : ((0 : Int) + (k : Int) + 1 + (j : Int)).toNat = k + 1 + j := by omega
theorem nexts_min {ns : List Int} {k : Nat} {m : Int} (hk : k < ns.length)
    (h1 : m ∈ ((List.range ((ns.length : Int) - ((0 : Int) + (k : Int) + 1)).toNat).filter fun j : Nat => decide (V.int (ns.getD ((0 : Int) + (k : Int) + 1 + (j : Int)).toNat 0) = V.int (ns.getD ((0 : Int) + (k : Int)).toNat 0))).map (fun j : Nat => (0 : Int) + (k : Int) + 1 + (j : Int)) ++ [(ns.length : Int)])
    (h2 : ∀ x ∈ ((List.range ((ns.length : Int) - ((0 : Int) + (k : Int) + 1)).toNat).filter fun j : Nat => decide (V.int (ns.getD ((0 : Int) + (k : Int) + 1 + (j : Int)).toNat 0) = V.int (ns.getD ((0 : Int) + (k : Int)).toNat 0))).map (fun j : Nat => (0 : Int) + (k : Int) + 1 + (j : Int)) ++ [(ns.length : Int)], m ≤ x) :
    nextUp ns k ns.length = m := by
  simp only [tn0, tn1, tn2, dvi] at h1 h2
  have hm : m ≤ ns.length := h2 _ (List.mem_append.mpr (Or.inr (List.mem_singleton.mpr rfl)))
  refine nextUp_uniq (Nat.le_refl _) ?_ (fun j h3 h4 e => ?_) hm
  · rcases List.mem_append.mp h1 with e | e
    · obtain ⟨j, hj, rfl⟩ := List.mem_map.mp e
      obtain ⟨hj1, hj2⟩ := List.mem_filter.mp hj
      have := List.mem_range.mp hj1
      exact Or.inr ⟨k + 1 + j, by omega, by omega, by omega, of_decide_eq_true hj2⟩
    · exact Or.inl (List.mem_singleton.mp e)
  · have h := h2 (0 + (k : Int) + 1 + ((j - (k + 1) : Nat) : Int)) (List.mem_append.mpr (Or.inl (List.mem_map.mpr ⟨j - (k + 1), List.mem_filter.mpr ⟨List.mem_range.mpr (by omega), decide_eq_true (by rw [show k + 1 + (j - (k + 1)) = j by omega]; exact e)⟩, rfl⟩)))
    omega
theorem same_dec {ns ms : List Int} (hl : (ns.length : Int) = (ms.length : Int)) :
    decide ((((List.range (ms.length : Int).toNat).filter fun j : Nat => !decide (V.int (ns.getD ((0 : Int) + (j : Int)).toNat 0) = V.int (ms.getD ((0 : Int) + (j : Int)).toNat 0))).map fun j : Nat => (0 : Int) + (j : Int)) = []) = decide (ns = ms) := by
  simp only [tn0, dvi, Int.toNat_natCast]
  refine decide_eq_decide.mpr ⟨fun h => ?_, fun h => ?_⟩
  · refine ext_getD (by omega) (fun i hi => ?_)
    have h2 := List.filter_eq_nil_iff.mp (List.map_eq_nil_iff.mp h) i (List.mem_range.mpr (by omega))
    simpa using h2
  · subst h
    simp
end Ur

namespace Ur
open PySem L2
/-! ### told lists that are held, each with what is due -/
/-- a pair of lists of the same ints, none of them the list that holds -/
structure PairOk (h : Addr) (H : Hp) (p : Addr) : Prop where
  off : p ≠ h
  both : ∃ (a b : Addr) (ns : List Int), a ≠ h ∧ b ≠ h ∧ H p = some (.lst [.ref a, .ref b]) ∧ H a = some (.lst (ns.map V.int)) ∧ H b = some (.lst (ns.map V.int))
/-- the list that holds at most n pairs -/
structure HeldOk (h : Addr) (H : Hp) (n : Nat) : Prop where
  all : ∃ ps : List Addr, H h = some (.lst (ps.map V.ref)) ∧ ps.length ≤ n ∧ ∀ p ∈ ps, PairOk h H p
theorem PairOk.step {h p : Addr} {H H' : Hp} (k : PairOk h H p) (b : But h H H') : PairOk h H' p := by
  obtain ⟨x, y, ns, hx, hy, e, e1, e2⟩ := k.both
  exact ⟨k.off, x, y, ns, hx, hy, b _ _ k.off e, b _ _ hx e1, b _ _ hy e2⟩
theorem Same.but {h : Addr} {H H' : Hp} (s : Same H H') : But h H H' := fun b o _ e => s b o e
theorem HeldOk.same {h : Addr} {H H' : Hp} {n : Nat} (k : HeldOk h H n) (s : Same H H') : HeldOk h H' n := by
  obtain ⟨ps, e, l, f⟩ := k.all
  exact ⟨ps, s _ _ e, l, fun p hp => (f p hp).step (Same.but s)⟩
theorem HeldOk.mono {h : Addr} {H : Hp} {n m : Nat} (k : HeldOk h H n) (l : n ≤ m) : HeldOk h H m := by
  obtain ⟨ps, e, q, f⟩ := k.all
  exact ⟨ps, e, Nat.le_trans q l, f⟩
/-- .. with more pairs behind -/
theorem HeldOk.grow {h : Addr} {H H' : Hp} {m : Nat} {ps qs : List Addr} (e : H h = some (.lst (ps.map V.ref))) (l : ps.length + qs.length ≤ m) (f : ∀ p ∈ ps, PairOk h H p) (b : But h H H') (e' : H' h = some (.lst ((ps ++ qs).map V.ref))) (g : ∀ p ∈ qs, PairOk h H' p) : HeldOk h H' m :=
  ⟨ps ++ qs, e', by rw [List.length_append]; exact l, fun p hp => by
    rcases List.mem_append.mp hp with k | k
    · exact (f p k).step b
    · exact g p k⟩
theorem HeldOk.new {h : Addr} {H : Hp} (e : H h = some (.lst [])) : HeldOk h H 0 := ⟨[], e, Nat.le_refl 0, fun p hp => nomatch hp⟩
end Ur

namespace Ur
open PySem L2
/-- over the cells, each with its place: what is new in H1 stays as the loop goes on -/
theorem for_cells {K : PySem.W.Frag} {H0 H1 : Hp} {cs : List Int} {p : Addr} {ts : List Addr} {i j : Nat} {tb : TS} {D : Ends} {σ : L2.St} (N : UrE.NewPairs H0 (UrE.enumC (cs.map V.int)) p ts H1)
    (Pv : Nat → L2.St → Hp → Prop) (h0 : Pv 0 σ H1) (hb : ∀ n σ H, Pv n σ H → ∀ b o, H0 b = none → H1 b = some o → H b = some o)
    (hs : ∀ n c σ H, cs[n]? = some c → Pv n σ H → tb { D with nx := Pv (n + 1), ct := Pv (n + 1), bk := D.nx } ((σ.set i (some (.int (n : Nat)))).set j (some (.int c))) H) (hd : ∀ σ H, Pv cs.length σ H → D.nx σ H) :
    ∃ W : Nat → Nat → L2.St → Hp → Prop, (∃ m, W 0 m σ H1) ∧ ∀ k m σ H, W k m σ H →
      ((Itl K p).stop k H ∧ D.nx σ H) ∨ ((Itl K p).go k H ∧ ∃ N : L2.St → Hp → Prop, (∀ σ' H', N σ' H' → ∃ m', m' < m ∧ W (k + 1) m' σ' H') ∧ ∀ x H', (Itl K p).yld k H x H' → gTup K 2 (gCons (gName i) (gCons (gName j) gNil)) x σ H' fun σ2 H2 => tb { D with nx := N, ct := N, bk := D.nx } σ2 H2) := by
  obtain ⟨n1, n2, n3, n4, n5, n6, n7, n8⟩ := N
  have hl : ts.length = cs.length := by rw [n6, UrE.enumC_len, List.length_map]
  refine for_list (xs := ts.map V.ref) Pv h0 (fun k σ H hk q => .of (hb k σ H q p _ n2 n7)) (fun k x σ H hx q => ?_) (fun σ H q => hd σ H (by rw [List.length_map, hl] at q; exact q))
  rw [List.getElem?_map] at hx
  cases ht : ts[k]? with
  | none => rw [ht] at hx; cases hx
  | some t =>
    rw [ht] at hx
    cases hx
    have hk : k < cs.length := by rw [← hl]; exact (List.getElem?_eq_some_iff.mp ht).1
    have hc : cs[k]? = some cs[k] := List.getElem?_eq_getElem hk
    have he : (UrE.enumC (cs.map V.int))[k]? = some [.int (k : Nat), .int cs[k]] := by rw [UrE.enumC_get, List.getElem?_map, hc]; rfl
    obtain ⟨t', e1, e2⟩ := n8 k _ he
    rw [ht] at e1
    cases e1
    have hn : H0 t = none := n3 t (List.mem_of_getElem? ht)
    exact ⟨t, _, rfl, .of (hb k σ H q t _ hn e2), rfl, _, _, rfl, _, _, rfl, rfl, hs k _ σ H hc q⟩
end Ur
namespace Ur
open PySem L2
theorem sql_fresh {K : PySem.W.Frag} {H0 H : Hp} {a h : Addr} {o : HO} {xs : List V} (nh : H0 h = none) (b : But h (upd H0 h o) H) (q : SqL K H0 a xs) : SqL K H a xs := by
  have st : ∀ (x : Addr) (u : HO), H0 x = some u → H x = some u := fun x u e => by
    have ne : x ≠ h := fun k => by rw [k, nh] at e; cases e
    exact b x u ne (by rw [upd_ne ne]; exact e)
  rcases q with (q | ⟨o, q⟩) | q
  · exact .inl (.inl (st _ _ q))
  · exact .inl (.inr ⟨o, st _ _ q⟩)
  · exact .inr q
end Ur

namespace Ur
open PySem L2
/-! ### unlike ints of a list -/
/-- the unlike ones, in the order in which they come -/
def uni (ns : List Int) : List Int := ns.foldl PyProof.Rows.step_dedup []
/-- how many -/
def ulen (ns : List Int) : Nat := (uni ns).length
theorem uni_snoc_any (ns : List Int) (x : Int) : uni (ns ++ [x]) = if (uni ns).any (· == x) = true then uni ns else uni ns ++ [x] := by
  unfold uni
  rw [List.foldl_append]
  rfl
theorem rev_ind {P : List Int → Prop} (h0 : P []) (hs : ∀ ns x, P ns → P (ns ++ [x])) (ns : List Int) : P ns := by
  have k : ∀ l : List Int, P l.reverse := by
    intro l
    induction l with
    | nil => exact h0
    | cons x l ih => rw [List.reverse_cons]; exact hs _ _ ih
  have := k ns.reverse
  rwa [List.reverse_reverse] at this
theorem mem_uni (ns : List Int) : ∀ x, x ∈ uni ns ↔ x ∈ ns := by
  refine rev_ind (P := fun ns => ∀ x, x ∈ uni ns ↔ x ∈ ns) (fun x => by simp [uni]) (fun ns y ih x => ?_) ns
  rw [uni_snoc_any]
  by_cases h : (uni ns).any (· == y) = true
  · rw [if_pos h, ih, List.mem_append]
    obtain ⟨z, hz, e⟩ := List.any_eq_true.mp h
    have e2 : z = y := eq_of_beq e
    rw [e2] at hz
    constructor
    · exact fun k => Or.inl k
    · rintro (k | k)
      · exact k
      · rw [List.mem_singleton.mp k]; exact (ih y).mp hz
  · rw [if_neg h, List.mem_append, List.mem_append, ih]
theorem uni_snoc (ns : List Int) (x : Int) : uni (ns ++ [x]) = if x ∈ ns then uni ns else uni ns ++ [x] := by
  rw [uni_snoc_any]
  by_cases h : x ∈ ns
  · have k : (uni ns).any (· == x) = true := List.any_eq_true.mpr ⟨x, (mem_uni ns x).mpr h, beq_self_eq_true x⟩
    rw [if_pos h, if_pos k]
  · rw [if_neg h, if_neg]
    intro k
    obtain ⟨z, hz, e⟩ := List.any_eq_true.mp k
    have e2 : z = x := eq_of_beq e
    exact h (e2 ▸ (mem_uni ns z).mp hz)
theorem ulen_snoc (ns : List Int) (x : Int) : ulen (ns ++ [x]) = if x ∈ ns then ulen ns else ulen ns + 1 := by
  unfold ulen
  rw [uni_snoc]
  by_cases h : x ∈ ns
  · rw [if_pos h, if_pos h]
  · rw [if_neg h, if_neg h, List.length_append]; rfl
theorem ulen_le (ns : List Int) : ulen ns ≤ ns.length := by
  refine rev_ind (P := fun ns => ulen ns ≤ ns.length) (Nat.le_refl 0) (fun ns x ih => ?_) ns
  rw [ulen_snoc, List.length_append]
  have : [x].length = 1 := rfl
  split <;> omega
theorem uni_nodup (ns : List Int) : (uni ns).Nodup := by
  refine rev_ind (P := fun ns => (uni ns).Nodup) List.nodup_nil (fun ns x ih => ?_) ns
  rw [uni_snoc]
  by_cases h : x ∈ ns
  · rw [if_pos h]; exact ih
  · rw [if_neg h, List.nodup_append]
    refine ⟨ih, List.nodup_cons.mpr ⟨by simp, List.nodup_nil⟩, fun a ha b hb e => ?_⟩
    rw [List.mem_singleton.mp hb] at e
    exact h (e ▸ (mem_uni ns a).mp ha)
theorem map_getD (ns : List Int) : (List.range ns.length).map (fun i => ns.getD i 0) = ns := by
  refine List.ext_getElem (by simp) fun i h1 h2 => ?_
  rw [List.getElem_map, List.getElem_range, List.getD_eq_getElem?_getD, List.getElem?_eq_getElem h2]
  rfl
theorem firstMet_uni (ns : List Int) : PyProof.Rows.firstMet (fun i => ns.getD i 0) ns.length = uni ns := by
  unfold PyProof.Rows.firstMet uni
  rw [map_getD]
/-! ### len(set(xs)) -/
def tLenSetU (K : PySem.W.Frag) (ta : TE) : TE := fun σ H Q => ta σ H fun x H1 => ∃ (l : Addr) (ns : List Int), x = .ref l ∧ SqL K H1 l (ns.map V.int) ∧ ns.length ≤ 4000 ∧ Q (.int (ulen ns : Nat)) H1
open PySem.Spec PyProof.Rows in
theorem pe_lenSetU {X : Cx} {K : PySem.W.Frag} {a : Expr} {ta : TE} {p p2 q pos : Pos} (hk : X.K = K) (hg : Gl X "len") (hm : X.mg "len" = none) (hg2 : Gl X "set") (hm2 : X.mg "set" = none) (ha : PE X a ta) (hc : X.calm = true := by rfl)
    (na : starEach [a] X.env = (false, eval a X.env) :: starEach [] X.env := by rfl) : PE X (.Call (.Name "len" p) [.Call (.Name "set" p2) [a] [] q] [] pos) (tLenSetU K ta) := by
  subst hk
  refine ⟨fun pins s σ H Q I h => ?_⟩
  refine Call_ (ld_blt I hg hm boot_len ?_)
  refine PyProof.Rows.callWith_builtin1 (PyProof.Rows.args_cons ?_ rfl) rfl rfl
  refine Call_ (ld_blt I hg2 hm2 boot_set ?_)
  refine PyProof.Rows.callWith_type1 (PyProof.Rows.args_cons (thn (ha.run pins s σ H _ I h) fun v s1 ⟨x, H1, I1, r1, q1⟩ => PyProof.Rows.args_nil ?_) na) na rfl
  obtain ⟨l, ns, rfl, hq, hl, q1⟩ := q1
  cases r1
  obtain ⟨its, r, pl, hz⟩ := I1.list hq
  have hlen : its.toArray.size = ns.length := by rw [List.size_toArray, ← r.length, List.length_map]
  refine call_set_list (I1.ok.hd hc) pl.isList (by simpa using RZ.intsAre_vals r) (by rw [hlen]; unfold scanBound; omega) fun h' tk hS hk => ?_
  refine PyProof.Rows.args_nil ?_
  rw [hlen, firstMet_uni] at hS
  obtain ⟨o, es, ep, t, ho, hex, hd, _, _, _, hf, hn⟩ := hS
  have I2 : Inv X pins σ H1 { s1 with heap := h', toks := tk } := I1.kept fun b o e => hk b o (Heap.lt_size e) e
  exact call_len_set ho hex hd hf (by rw [hn]; have := ulen_le ns; unfold ulen at this; omega) ⟨.int (ulen ns : Nat), H1, I2.tok _, ⟨_, by rw [hn]; rfl⟩, q1⟩
end Ur

namespace Ur
open PySem L2
/-! ### plain rows -/
/-- how many unlike ones stand ahead of the place at which x stands first -/
def plainAt (ns : List Int) (x : Int) : Nat := ulen (ns.take (ns.idxOf x))
def plainP (ns : List Int) : List Int := ns.map fun x => (plainAt ns x : Int)
theorem plainP_len (ns : List Int) : (plainP ns).length = ns.length := by simp [plainP]
theorem take_snoc {ns : List Int} {i : Nat} {x : Int} (h : ns[i]? = some x) : ns.take (i + 1) = ns.take i ++ [x] := by
  rw [List.take_add_one, h]; rfl
theorem idx_first {ns : List Int} {i : Nat} {x : Int} (h : ns[i]? = some x) (n : x ∉ ns.take i) : ns.idxOf x = i := by
  obtain ⟨hi, e⟩ := List.getElem?_eq_some_iff.mp h
  have e2 : ns = ns.take i ++ ns.drop i := (List.take_append_drop i ns).symm
  have e3 : ns.drop i = x :: ns.drop (i + 1) := by rw [List.drop_eq_getElem_cons hi, e]
  have hl : (ns.take i).length = i := by rw [List.length_take]; omega
  have e4 : (ns.take i ++ ns.drop i).idxOf x = i := by
    rw [List.idxOf_append, if_neg n, e3, List.idxOf_cons_self, hl]; omega
  rwa [← e2] at e4
theorem idx_lt {ns : List Int} {x : Int} (h : x ∈ ns) : ns.idxOf x < ns.length := List.idxOf_lt_length_of_mem h
theorem idx_get {ns : List Int} {x : Int} (h : x ∈ ns) : ns[ns.idxOf x]? = some x := by
  rw [List.getElem?_eq_getElem (idx_lt h), List.getElem_idxOf]
theorem idx_not {ns : List Int} {x : Int} : x ∉ ns.take (ns.idxOf x) := fun k => by
  obtain ⟨j, hj, e⟩ := List.getElem_of_mem k
  rw [List.getElem_take] at e
  have h1 : j < ns.idxOf x := by rw [List.length_take] at hj; omega
  have h2 := List.not_of_lt_findIdx (p := (· == x)) (xs := ns) h1
  simp [e] at h2
theorem putK_len {kvs : List (Key × V)} {k : Key} {v : V} (h : valV kvs k = none) : (putK kvs k v).length = kvs.length + 1 := by
  have e : (kvs.any fun kv => decide (kv.1 = k)) = false := by
    cases q : (kvs.any fun kv => decide (kv.1 = k)) with
    | false => rfl
    | true =>
      obtain ⟨p, hp, e⟩ := List.any_eq_true.mp q
      unfold valV at h
      rw [Option.map_eq_none_iff, List.find?_eq_none] at h
      exact absurd e (h p hp)
  unfold putK
  rw [e, if_neg Bool.false_ne_true, List.length_append]
  rfl
theorem ulen_mono {ns : List Int} : ∀ {j i : Nat}, i ≤ j → ulen (ns.take i) ≤ ulen (ns.take j)
  | 0, i, h => by rw [Nat.le_zero.mp h]; exact Nat.le_refl _
  | j + 1, i, h => by
    rcases Nat.lt_or_eq_of_le h with h | rfl
    · refine Nat.le_trans (ulen_mono (Nat.le_of_lt_succ h)) ?_
      cases e : ns[j]? with
      | none => rw [List.take_add_one, e]; simp
      | some x => rw [take_snoc e, ulen_snoc]; split <;> omega
    · exact Nat.le_refl _
theorem plainAt_lt {ns : List Int} {x y : Int} (hx : x ∈ ns) (h : ns.idxOf x < ns.idxOf y) : plainAt ns x < plainAt ns y := by
  unfold plainAt
  have h1 : ulen (ns.take (ns.idxOf x + 1)) = ulen (ns.take (ns.idxOf x)) + 1 := by
    rw [take_snoc (idx_get hx), ulen_snoc, if_neg idx_not]
  have h2 := ulen_mono (ns := ns) (show ns.idxOf x + 1 ≤ ns.idxOf y from h)
  omega
theorem plainAt_inj {ns : List Int} {x y : Int} (hx : x ∈ ns) (hy : y ∈ ns) (h : plainAt ns x = plainAt ns y) : x = y := by
  rcases Nat.lt_trichotomy (ns.idxOf x) (ns.idxOf y) with k | k | k
  · exact absurd (plainAt_lt hx k) (by omega)
  · have e := idx_get hx
    rw [k, idx_get hy] at e
    exact (Option.some.inj e).symm
  · exact absurd (plainAt_lt hy k) (by omega)
/-- f calls the numbers of ns otherwise, one for one -/
def InjOn (f : Int → Int) (ns : List Int) : Prop := ∀ x ∈ ns, ∀ y ∈ ns, f x = f y → x = y
theorem mem_map_inj {f : Int → Int} {ns ms : List Int} {x : Int} (h : InjOn f ns) (hx : x ∈ ns) (hs : ∀ y ∈ ms, y ∈ ns) : f x ∈ ms.map f ↔ x ∈ ms := by
  constructor
  · intro k
    obtain ⟨y, hy, e⟩ := List.mem_map.mp k
    exact h y (hs y hy) x hx e ▸ hy
  · exact fun k => List.mem_map.mpr ⟨x, k, rfl⟩
theorem ulen_map {f : Int → Int} {ns : List Int} (h : InjOn f ns) : ulen (ns.map f) = ulen ns := by
  have k : ∀ ms : List Int, (∀ y ∈ ms, y ∈ ns) → ulen (ms.map f) = ulen ms := fun ms => by
    refine rev_ind (P := fun ms => (∀ y ∈ ms, y ∈ ns) → ulen (ms.map f) = ulen ms) (fun _ => rfl) (fun ms x ih hs => ?_) ms
    have hs' : ∀ y ∈ ms, y ∈ ns := fun y hy => hs y (List.mem_append.mpr (Or.inl hy))
    have hx : x ∈ ns := hs x (List.mem_append.mpr (Or.inr (List.mem_singleton.mpr rfl)))
    have e := mem_map_inj h hx hs'
    rw [List.map_append, List.map_cons, List.map_nil, ulen_snoc, ulen_snoc, ih hs']
    by_cases q : x ∈ ms
    · rw [if_pos q, if_pos (e.mpr q)]
    · rw [if_neg q, if_neg (fun z => q (e.mp z))]
  exact k ns fun _ z => z
theorem InjOn.take {f : Int → Int} {ns : List Int} (h : InjOn f ns) (i : Nat) : InjOn f (ns.take i) := fun x hx y hy e => h x (List.mem_of_mem_take hx) y (List.mem_of_mem_take hy) e
theorem idx_map {f : Int → Int} {ns : List Int} {x : Int} (h : InjOn f ns) (hx : x ∈ ns) : (ns.map f).idxOf (f x) = ns.idxOf x := by
  refine idx_first ?_ ?_
  · rw [List.getElem?_map, idx_get hx]; rfl
  · rw [← List.map_take]
    exact fun k => idx_not ((mem_map_inj h hx (fun y hy => List.mem_of_mem_take hy)).mp k)
theorem plainP_map {f : Int → Int} {ns : List Int} (h : InjOn f ns) : plainP (ns.map f) = plainP ns := by
  unfold plainP
  rw [List.map_map]
  refine List.map_congr_left fun x hx => ?_
  show ((plainAt (ns.map f) (f x) : Nat) : Int) = (plainAt ns x : Nat)
  unfold plainAt
  rw [idx_map h hx, ← List.map_take, ulen_map (h.take _)]
theorem plainP_own (ns : List Int) : plainP (plainP ns) = plainP ns :=
  plainP_map (f := fun x => (plainAt ns x : Int)) fun x hx y hy e => plainAt_inj hx hy (by have e2 : ((plainAt ns x : Nat) : Int) = (plainAt ns y : Nat) := e; omega)
/-! ### their rules -/
theorem setd_int {H : Hp} {a : Addr} {kvs : List (Key × V)} {n : Int} {z : V} {Q : VK} (h : H a = some (.dK kvs))
    (q : kvs.length < sizeLine ∧ (∀ v, valV kvs (Sum.inl n) = some v → Q v H) ∧ (valV kvs (Sum.inl n) = none → Q z (upd H a (.dK (putK kvs (Sum.inl n) z))))) :
    ∃ (kvs : List (Key × V)) (k : Key), H a = some (.dK kvs) ∧ V.int n = kV k ∧ kvs.length < sizeLine ∧ (∀ v, valV kvs k = some v → Q v H) ∧ (valV kvs k = none → Q z (upd H a (.dK (putK kvs k z)))) :=
  ⟨kvs, Sum.inl n, h, rfl, q.1, q.2.1, q.2.2⟩
theorem index_int {K : PySem.W.Frag} {H : Hp} {a : Addr} {ns : List Int} {x : Int} {Q : VK} (h : SqL K H a (ns.map V.int)) (q : x ∈ ns ∧ Q (.int (ns.idxOf x : Nat)) H) : rIndex K (.ref a) [.int x] H Q := by
  refine ⟨a, ns.map V.int, .int x, ns.idxOf x, .int x, rfl, rfl, h, rfl, ?_, ?_, ?_, ?_, q.2⟩
  · rw [List.all_map]
    exact List.all_eq_true.mpr fun _ _ => rfl
  · rw [List.getElem?_map, idx_get q.1]; rfl
  · show (x == x) = true
    exact beq_self_eq_true x
  · intro m z' hm hz
    obtain ⟨n, hn, rfl⟩ := iv_get hz
    have ne : ¬ n = x := fun e => by
      rw [e] at hn
      refine idx_not (ns := ns) (x := x) (List.mem_of_getElem? (i := m) ?_)
      rw [List.getElem?_take, if_pos hm, hn]
    show (n == x) = false
    exact beq_eq_false_iff_ne.mpr ne
end Ur

namespace Ur
open PySem L2
theorem ps_never {X : Cx} {st : Stmt} : PS X st (fun _ _ _ => False) := ⟨fun _ _ _ _ _ _ h => h.elim⟩
theorem putF_le (k : Str) (v : V) : ∀ fs : List (Str × V), (putF k v fs).length ≤ fs.length + 1
  | [] => Nat.le_refl 1
  | (k', v') :: r => by
    unfold putF
    split
    · exact Nat.le_succ _
    · exact Nat.succ_le_succ (putF_le k v r)
theorem pf1 {k : Str} {v : V} : (putF k v []).length < 1000 := Nat.lt_of_le_of_lt (putF_le _ _ _) (by decide)
theorem pf2 {k k2 : Str} {v v2 : V} : (putF k v (putF k2 v2 [])).length < 1000 := Nat.lt_of_le_of_lt (putF_le _ _ _) (Nat.lt_of_le_of_lt (Nat.succ_le_succ (putF_le _ _ _)) (by decide))
theorem pf3 {k k2 k3 : Str} {v v2 v3 : V} : (putF k v (putF k2 v2 (putF k3 v3 []))).length < 1000 := Nat.lt_of_le_of_lt (putF_le _ _ _) (Nat.lt_of_le_of_lt (Nat.succ_le_succ (putF_le _ _ _)) (Nat.lt_of_le_of_lt (Nat.succ_le_succ (Nat.succ_le_succ (putF_le _ _ _))) (by decide)))
/-! ### a row made ready -/
def rdyF (n : Int) (la na : Addr) : List (Str × V) := putF "nexts" (.ref na) (putF "lasts" (.ref la) (putF "many" (.int n) []))
theorem rdy_many {n : Int} {la na : Addr} : (rdyF n la na).lookup ("many" : Str) = some (.int n) := by
  unfold rdyF
  rw [lookup_putF, if_neg (by decide), lookup_putF, if_neg (by decide), lookup_putF, if_pos rfl]
theorem rdy_lasts {n : Int} {la na : Addr} : (rdyF n la na).lookup ("lasts" : Str) = some (.ref la) := by
  unfold rdyF
  rw [lookup_putF, if_neg (by decide), lookup_putF, if_pos rfl]
theorem rdy_nexts {n : Int} {la na : Addr} : (rdyF n la na).lookup ("nexts" : Str) = some (.ref na) := by
  unfold rdyF
  rw [lookup_putF, if_pos rfl]
theorem rdy_no {n : Int} {la na : Addr} {m : Str} (h1 : ¬ m = "many") (h2 : ¬ m = "lasts") (h3 : ¬ m = "nexts") : (rdyF n la na).lookup m = none := by
  unfold rdyF
  rw [lookup_putF, if_neg h3, lookup_putF, if_neg h2, lookup_putF, if_neg h1]
  rfl
/-- at o a row made ready; its parts are none of L -/
structure Rdy (C : Addr) (L : Addr → Prop) (H : Hp) (o : Addr) (ns : List Int) : Prop where
  all : ∃ dx la na : Addr, H o = some (.ins C dx (rdyF ns.length la na)) ∧ H la = some (.lst ((lastP ns).map V.int)) ∧ H na = some (.lst ((nextP ns).map V.int)) ∧ ∀ b, L b → o ≠ b ∧ la ≠ b ∧ na ≠ b
theorem Rdy.same {C : Addr} {L : Addr → Prop} {H H' : Hp} {o : Addr} {ns : List Int} (r : Rdy C L H o ns) (s : Same H H') : Rdy C L H' o ns := by
  obtain ⟨dx, la, na, e1, e2, e3, f⟩ := r.all
  exact ⟨dx, la, na, s _ _ e1, s _ _ e2, s _ _ e3, f⟩
theorem Rdy.but {C : Addr} {L : Addr → Prop} {H H' : Hp} {o b : Addr} {ns : List Int} (r : Rdy C L H o ns) (l : L b) (s : But b H H') : Rdy C L H' o ns := by
  obtain ⟨dx, la, na, e1, e2, e3, f⟩ := r.all
  obtain ⟨f1, f2, f3⟩ := f b l
  exact ⟨dx, la, na, s _ _ f1 e1, s _ _ f2 e2, s _ _ f3 e3, f⟩
theorem Rdy.sub {C : Addr} {L L' : Addr → Prop} {H : Hp} {o : Addr} {ns : List Int} (r : Rdy C L H o ns) (l : ∀ b, L' b → L b) : Rdy C L' H o ns := by
  obtain ⟨dx, la, na, e1, e2, e3, f⟩ := r.all
  exact ⟨dx, la, na, e1, e2, e3, fun b k => f b (l b k)⟩
/-! ### windows -/
/-- the numbers of a window -/
def win (ns : List Int) (f b : Int) : List Int := (ns.drop f.toNat).take (b.toNat - f.toNat)
/-- how many unlike ones -/
def wun (ns : List Int) (f b : Int) : Nat := ulen (win ns f b)
theorem win_len {ns : List Int} {f b : Int} (h0 : 0 ≤ f) (h1 : f ≤ b) (h2 : b ≤ ns.length) : (win ns f b).length = (b - f).toNat := by
  unfold win
  rw [List.length_take, List.length_drop]
  omega
theorem mem_win {ns : List Int} {f k : Nat} {x : Int} : x ∈ (ns.drop f).take k ↔ ∃ j, f ≤ j ∧ j < f + k ∧ ns[j]? = some x := by
  constructor
  · intro h
    obtain ⟨j, hj⟩ := List.mem_iff_getElem?.mp h
    rw [List.getElem?_take] at hj
    by_cases hk : j < k
    · rw [if_pos hk, List.getElem?_drop] at hj
      exact ⟨f + j, by omega, by omega, hj⟩
    · rw [if_neg hk] at hj; cases hj
  · rintro ⟨j, h1, h2, e⟩
    refine List.mem_iff_getElem?.mpr ⟨j - f, ?_⟩
    rw [List.getElem?_take, if_pos (by omega), List.getElem?_drop, show f + (j - f) = j from by omega]
    exact e
theorem last_in {ns : List Int} {f k : Nat} (h : f + k < ns.length) : (ns.getD (f + k) 0 ∈ (ns.drop f).take k) ↔ ¬ lastAt ns (f + k) (ns.getD (f + k) 0) < (f : Int) := by
  rw [mem_win]
  rcases lastAt_spec ns (ns.getD (f + k) 0) (f + k) with ⟨e, n⟩ | ⟨v, e, h1, h2, n⟩
  · constructor
    · rintro ⟨j, h1, h2, e2⟩
      exact absurd (getD_of e2) (n j h2)
    · intro hn
      omega
  · constructor
    · rintro ⟨j, h3, h4, e2⟩ hlt
      rw [e] at hlt
      exact absurd (getD_of e2) (n j (by omega) h4)
    · intro hn
      refine ⟨v, by omega, h1, ?_⟩
      rw [get_of (by omega), h2]
/-- .. by the last places -/
theorem ulen_win {ns : List Int} {f : Nat} : ∀ k : Nat, f + k ≤ ns.length → ulen ((ns.drop f).take k) = ((((lastP ns).drop f).take k).filter (fun x => decide (x < (f : Int)))).length
  | 0, _ => by rw [List.take_zero, List.take_zero]; rfl
  | k + 1, h => by
    have hk : f + k < ns.length := h
    have e1 : (ns.drop f)[k]? = some (ns.getD (f + k) 0) := by rw [List.getElem?_drop]; exact get_of hk
    have e2 : ((lastP ns).drop f)[k]? = some (lastAt ns (f + k) (ns.getD (f + k) 0)) := by rw [List.getElem?_drop]; exact lastP_get hk
    rw [take_snoc e1, take_snoc e2, ulen_snoc, List.filter_append, List.length_append, ulen_win k (by omega)]
    have q := last_in hk
    by_cases hl : lastAt ns (f + k) (ns.getD (f + k) 0) < (f : Int)
    · rw [if_neg (fun z => q.mp z hl), List.filter_cons_of_pos (by exact decide_eq_true hl)]
      rfl
    · rw [if_pos (q.mpr hl), List.filter_cons_of_neg (by rw [decide_eq_false hl]; exact Bool.false_ne_true)]
      rfl
theorem wun_lasts {ns : List Int} {f b : Int} (h0 : 0 ≤ f) (h1 : f ≤ b) (h2 : b ≤ ns.length) : ((((lastP ns).drop f.toNat).take (b.toNat - f.toNat)).filter (fun x => decide (x < f))).length = wun ns f b := by
  have e := ulen_win (ns := ns) (f := f.toNat) (b.toNat - f.toNat) (by omega)
  rw [Int.toNat_of_nonneg h0] at e
  exact e.symm
end Ur

namespace Ur
open PySem L2
/-! ### sums -/
def sumTo (F : Nat → Int) : Nat → Int
  | 0 => 0
  | k + 1 => sumTo F k + F k
theorem sum_snoc (xs : List Int) (x : Int) : (xs ++ [x]).sum = xs.sum + x := by
  rw [List.sum_append]; simp
theorem sum_range (F : Nat → Int) : ∀ n : Nat, ((List.range n).map F).sum = sumTo F n
  | 0 => rfl
  | n + 1 => by rw [List.range_succ, List.map_append, List.map_cons, List.map_nil, sum_snoc, sum_range F n]; rfl
theorem sum_filter (t : Nat → Bool) (F : Nat → Int) : ∀ n : Nat, (((List.range n).filter t).map F).sum = sumTo (fun k => if t k = true then F k else 0) n
  | 0 => rfl
  | n + 1 => by
    rw [List.range_succ, List.filter_append, List.map_append, List.sum_append, sum_filter t F n]
    show _ = _ + (if t n = true then F n else 0)
    cases h : t n with
    | true => rw [List.filter_cons_of_pos h]; simp
    | false => rw [List.filter_cons_of_neg (by rw [h]; exact Bool.false_ne_true)]; simp
theorem sumTo_congr {F G : Nat → Int} : ∀ {n : Nat}, (∀ k, k < n → F k = G k) → sumTo F n = sumTo G n
  | 0, _ => rfl
  | n + 1, h => by
    show sumTo F n + F n = sumTo G n + G n
    rw [sumTo_congr (fun k hk => h k (Nat.lt_succ_of_lt hk)), h n (Nat.lt_succ_self n)]
theorem sumTo_add (F G : Nat → Int) : ∀ n : Nat, sumTo (fun k => F k + G k) n = sumTo F n + sumTo G n
  | 0 => rfl
  | n + 1 => by
    show sumTo (fun k => F k + G k) n + (F n + G n) = sumTo F n + F n + (sumTo G n + G n)
    rw [sumTo_add F G n]; omega
theorem sumTo_mul (F : Nat → Int) (c : Int) : ∀ n : Nat, sumTo (fun k => F k * c) n = sumTo F n * c
  | 0 => (Int.zero_mul c).symm
  | n + 1 => by
    show sumTo (fun k => F k * c) n + F n * c = (sumTo F n + F n) * c
    rw [sumTo_mul F c n, Int.add_mul]
theorem sumTo_zero : ∀ n : Nat, sumTo (fun _ => 0) n = 0
  | 0 => rfl
  | n + 1 => by show sumTo (fun _ => 0) n + 0 = 0; rw [sumTo_zero n]; rfl
theorem sumTo_swap (F : Nat → Nat → Int) (m : Nat) : ∀ n : Nat, sumTo (fun i => sumTo (fun j => F i j) m) n = sumTo (fun j => sumTo (fun i => F i j) n) m
  | 0 => (sumTo_zero m).symm
  | n + 1 => by
    show sumTo (fun i => sumTo (fun j => F i j) m) n + sumTo (fun j => F n j) m = sumTo (fun j => sumTo (fun i => F i j) n + F n j) m
    rw [sumTo_swap F m n, sumTo_add]
theorem sumTo_shift (F : Nat → Int) (f : Nat) : ∀ m : Nat, sumTo F (f + m) = sumTo F f + sumTo (fun k => F (f + k)) m
  | 0 => by show sumTo F f = sumTo F f + 0; omega
  | m + 1 => by
    show sumTo F (f + m) + F (f + m) = sumTo F f + (sumTo (fun k => F (f + k)) m + F (f + m))
    rw [sumTo_shift F f m]; omega
/-- how many k below n lie in [lo, hi) -/
theorem sumTo_count (lo hi : Int) (h0 : 0 ≤ lo) (h1 : lo ≤ hi) : ∀ n : Nat, hi ≤ n → sumTo (fun k => if lo ≤ (k : Int) ∧ (k : Int) < hi then 1 else 0) n = hi - lo := by
  have key : ∀ n : Nat, sumTo (fun k => if lo ≤ (k : Int) ∧ (k : Int) < hi then 1 else 0) n = if (n : Int) ≤ lo then 0 else if (n : Int) ≤ hi then n - lo else hi - lo := by
    intro n
    induction n with
    | zero => rw [if_pos (by omega)]; rfl
    | succ n ih =>
      show sumTo _ n + (if lo ≤ (n : Int) ∧ (n : Int) < hi then 1 else 0) = _
      rw [ih]
      (repeat' split) <;> omega
  intro n hn
  rw [key]
  (repeat' split) <;> omega
/-! ### windows, counted -/
theorem ulen_congr {a b : List Int} (h : ∀ x, x ∈ a ↔ x ∈ b) : ulen a = ulen b := by
  have p : (uni a).Perm (uni b) := (List.perm_ext_iff_of_nodup (uni_nodup a) (uni_nodup b)).mpr fun x => by rw [mem_uni, mem_uni]; exact h x
  exact p.length_eq
theorem ulen_cons (x : Int) (ns : List Int) : ulen (x :: ns) = if x ∈ ns then ulen ns else ulen ns + 1 := by
  rw [← ulen_snoc]
  exact ulen_congr fun y => by simp [or_comm]
/-- how many unlike ones stand from f on, ahead of b -/
def wunN (ns : List Int) (f b : Nat) : Nat := ulen ((ns.drop f).take (b - f))
theorem wun_N (ns : List Int) (f b : Int) : wun ns f b = wunN ns f.toNat b.toNat := rfl
theorem wunN_none (ns : List Int) (f : Nat) : wunN ns f f = 0 := by unfold wunN; rw [Nat.sub_self, List.take_zero]; rfl
theorem wunN_up {ns : List Int} {f b : Nat} (h : f ≤ b) (hb : b < ns.length) : wunN ns f (b + 1) = wunN ns f b + if lastAt ns b (ns.getD b 0) < (f : Int) then 1 else 0 := by
  unfold wunN
  have e : (ns.drop f)[b - f]? = some (ns.getD b 0) := by rw [List.getElem?_drop, show f + (b - f) = b from by omega]; exact get_of hb
  rw [show b + 1 - f = (b - f) + 1 from by omega, take_snoc e, ulen_snoc]
  have q := last_in (ns := ns) (f := f) (k := b - f) (by omega)
  rw [show f + (b - f) = b from by omega] at q
  by_cases hl : lastAt ns b (ns.getD b 0) < (f : Int)
  · rw [if_pos hl, if_neg (fun z => q.mp z hl)]
  · rw [if_neg hl, if_pos (q.mpr hl)]; rfl
theorem next_in {ns : List Int} {p b : Nat} (hp : p < b) (hb : b ≤ ns.length) : (ns.getD p 0 ∈ (ns.drop (p + 1)).take (b - (p + 1))) ↔ ¬ (b : Int) ≤ nextUp ns p ns.length := by
  rw [mem_win]
  rcases nextUp_spec ns p ns.length (Nat.le_refl _) with ⟨e, n⟩ | ⟨v, e, h1, h2, h3, n⟩
  · constructor
    · rintro ⟨j, h1, h2, e2⟩
      exact absurd (getD_of e2) (n j (by omega) (List.getElem?_eq_some_iff.mp e2).1)
    · intro hn; omega
  · constructor
    · rintro ⟨j, h4, h5, e2⟩ hlt
      rw [e] at hlt
      exact absurd (getD_of e2) (n j (by omega) (by omega))
    · intro hn
      refine ⟨v, by omega, by omega, ?_⟩
      rw [get_of h2, h3]
theorem wunN_down {ns : List Int} {p b : Nat} (hp : p < b) (hb : b ≤ ns.length) : wunN ns p b = wunN ns (p + 1) b + if (b : Int) ≤ nextUp ns p ns.length then 1 else 0 := by
  unfold wunN
  have hl : p < ns.length := by omega
  have e : (ns.drop p).take (b - p) = ns.getD p 0 :: (ns.drop (p + 1)).take (b - (p + 1)) := by
    have e1 : ns.drop p = ns.getD p 0 :: ns.drop (p + 1) := by
      rw [List.drop_eq_getElem_cons hl, List.getD_eq_getElem?_getD, List.getElem?_eq_getElem hl]
      rfl
    rw [e1, show b - p = (b - (p + 1)) + 1 from by omega]
    rfl
  rw [e, ulen_cons]
  have q := next_in hp hb
  by_cases hc : (b : Int) ≤ nextUp ns p ns.length
  · rw [if_pos hc, if_neg (fun z => q.mp z hc)]
  · rw [if_neg hc, if_pos (q.mpr hc)]; rfl
/-- .. by the last places -/
theorem wunN_lasts {ns : List Int} {f : Nat} : ∀ b : Nat, f ≤ b → b ≤ ns.length → (wunN ns f b : Int) = sumTo (fun p => if f ≤ p ∧ lastAt ns p (ns.getD p 0) < (f : Int) then 1 else 0) b := by
  intro b hb
  obtain ⟨k, rfl⟩ : ∃ k, b = f + k := ⟨b - f, by omega⟩
  clear hb
  induction k with
  | zero =>
    intro _
    rw [Nat.add_zero, wunN_none, sumTo_congr (G := fun _ => 0) (fun k hk => if_neg (fun z => by omega)), sumTo_zero]
    rfl
  | succ k ih =>
    intro h
    rw [show f + (k + 1) = (f + k) + 1 from rfl, wunN_up (by omega) (by omega)]
    show _ = sumTo _ (f + k) + (if f ≤ f + k ∧ lastAt ns (f + k) (ns.getD (f + k) 0) < (f : Int) then 1 else 0)
    rw [← ih (by omega)]
    by_cases hl : lastAt ns (f + k) (ns.getD (f + k) 0) < (f : Int)
    · rw [if_pos hl, if_pos ⟨by omega, hl⟩]; rfl
    · rw [if_neg hl, if_neg (fun z => hl z.2)]; rfl
/-- .. by the next places -/
theorem wunN_nexts {ns : List Int} {b : Nat} (hb : b ≤ ns.length) : ∀ k f : Nat, f + k = b → (wunN ns f b : Int) = sumTo (fun j => if (b : Int) ≤ nextUp ns (f + j) ns.length then 1 else 0) k
  | 0, f, h => by rw [show f = b from h, wunN_none]; rfl
  | k + 1, f, h => by
    rw [wunN_down (by omega) hb, Int.natCast_add, wunN_nexts hb k (f + 1) (by omega)]
    have e := sumTo_shift (fun j => if (b : Int) ≤ nextUp ns (f + j) ns.length then (1 : Int) else 0) 1 k
    rw [show k + 1 = 1 + k from by omega, e]
    have e2 : sumTo (fun j => if (b : Int) ≤ nextUp ns (f + j) ns.length then (1 : Int) else 0) 1 = if (b : Int) ≤ nextUp ns f ns.length then 1 else 0 := by
      show (0 : Int) + _ = _
      rw [Int.zero_add]; rfl
    rw [e2]
    have e3 : sumTo (fun k => if (b : Int) ≤ nextUp ns (f + (1 + k)) ns.length then (1 : Int) else 0) k = sumTo (fun j => if (b : Int) ≤ nextUp ns (f + 1 + j) ns.length then (1 : Int) else 0) k := sumTo_congr fun j _ => by rw [Nat.add_assoc]
    rw [e3]
    split <;> omega
end Ur

namespace Ur
open PySem L2
theorem qint {Q : VK} {H : Hp} {i j : Int} (h : Q (.int j) H) (e : i = j) : Q (.int i) H := e ▸ h
theorem qbv {Q : VK} {H : Hp} {i j : Bool} (h : Q (.bl j) H) (e : i = j) : Q (.bl i) H := e ▸ h
theorem qbl {Q : Bool → Hp → Prop} {H : Hp} {i j : Bool} (h : Q j H) (e : i = j) : Q i H := e ▸ h
/-- where the number at p stood last, stands next -/
def lp (ns : List Int) (p : Nat) : Int := lastAt ns p (ns.getD p 0)
def nx (ns : List Int) (p : Nat) : Int := nextUp ns p ns.length
theorem lp_range (ns : List Int) (p : Nat) : -1 ≤ lp ns p ∧ lp ns p < p := lastAt_range ns _ p
theorem lastP_getD {ns : List Int} {k : Nat} (h : k < ns.length) : (lastP ns).getD k 0 = lp ns k := getD_of (lastP_get h)
theorem nextP_getD {ns : List Int} {k : Nat} (h : k < ns.length) : (nextP ns).getD k 0 = nx ns k := getD_of (nextP_get h)
theorem wun_nat (ns : List Int) {x y : Int} {i j : Nat} (hx : x = i) (hy : y = j) : (wun ns x y : Int) = wunN ns i j := by
  subst hx hy
  rfl
theorem sumTo_cut (F : Nat → Int) {b n : Nat} (h : b ≤ n) : sumTo F b = sumTo (fun p => if p < b then F p else 0) n := by
  obtain ⟨m, rfl⟩ : ∃ m, n = b + m := ⟨n - b, by omega⟩
  rw [sumTo_shift, sumTo_congr (F := fun p => if p < b then F p else 0) (G := F) (fun k hk => if_pos hk), sumTo_congr (F := fun k => if b + k < b then F (b + k) else 0) (G := fun _ => 0) (fun k _ => if_neg (by omega)), sumTo_zero]
  omega
/-- Σ over k below n of c, where lo ≤ k < hi -/
theorem sumTo_some (c lo hi : Int) (h0 : 0 ≤ lo) (h1 : lo ≤ hi) {n : Nat} (hn : hi ≤ n) : sumTo (fun k => if lo ≤ (k : Int) ∧ (k : Int) < hi then c else 0) n = (hi - lo) * c := by
  rw [← sumTo_count lo hi h0 h1 n hn, ← sumTo_mul]
  exact sumTo_congr fun k _ => by split <;> simp
/-- the windows from i on, together -/
def herF (ns : List Int) (i : Nat) : Int := sumTo (fun p => if i ≤ p ∧ lp ns p < (i : Int) then (ns.length : Int) - p else 0) ns.length
theorem her_wins {ns : List Int} {i : Nat} (hi : i ≤ ns.length) : sumTo (fun k => (wunN ns i (i + k) : Int)) (ns.length + 1 - i) = herF ns i := by
  have e1 : sumTo (fun k => (wunN ns i (i + k) : Int)) (ns.length + 1 - i) = sumTo (fun k => sumTo (fun p => if p < i + k then (if i ≤ p ∧ lp ns p < (i : Int) then (1 : Int) else 0) else 0) ns.length) (ns.length + 1 - i) :=
    sumTo_congr fun k hk => by rw [wunN_lasts (i + k) (by omega) (by omega), sumTo_cut _ (show i + k ≤ ns.length by omega)]; rfl
  rw [e1, sumTo_swap]
  refine sumTo_congr fun p hp => ?_
  by_cases h : i ≤ p ∧ lp ns p < (i : Int)
  · rw [if_pos h]
    rw [sumTo_congr (G := fun k => if ((p + 1 - i : Nat) : Int) ≤ (k : Int) ∧ (k : Int) < ((ns.length + 1 - i : Nat) : Int) then 1 else 0) (fun k hk => ?_), sumTo_count _ _ (by omega) (by omega) _ (Int.le_refl _)]
    · omega
    · have := h.1
      by_cases q : p < i + k
      · rw [if_pos q, if_pos ⟨by omega, by omega⟩]
      · rw [if_neg q, if_neg (fun z => by omega)]
  · simp only [if_neg h]
    rw [sumTo_congr (G := fun _ => 0) (fun k _ => by simp), sumTo_zero]
theorem her_firsts {ns : List Int} {i : Nat} (hi : i ≤ ns.length) : sumTo (fun k => if decide (lp ns (i + k) < (i : Int)) = true then (ns.length : Int) - ((i + k : Nat) : Int) else 0) (ns.length - i) = herF ns i := by
  unfold herF
  have e := sumTo_shift (fun p => if i ≤ p ∧ lp ns p < (i : Int) then (ns.length : Int) - (p : Int) else 0) i (ns.length - i)
  rw [show i + (ns.length - i) = ns.length from by omega] at e
  rw [e, sumTo_congr (n := i) (G := fun _ => 0) (fun k hk => if_neg (fun z => by omega)), sumTo_zero, Int.zero_add]
  refine sumTo_congr fun k _ => ?_
  by_cases h : lp ns (i + k) < (i : Int)
  · rw [if_pos (decide_eq_true h), if_pos ⟨by omega, h⟩]
  · rw [if_neg (by rw [decide_eq_false h]; exact Bool.false_ne_true), if_neg (fun z => h z.2)]
theorem her_all (ns : List Int) : sumTo (herF ns) (ns.length + 1) = sumTo (fun p => ((p : Int) - lp ns p) * ((ns.length : Int) - p)) ns.length := by
  show sumTo (fun i => sumTo (fun p => if i ≤ p ∧ lp ns p < (i : Int) then (ns.length : Int) - p else 0) ns.length) (ns.length + 1) = _
  rw [sumTo_swap]
  refine sumTo_congr fun p hp => ?_
  have hr := lp_range ns p
  rw [sumTo_congr (G := fun i => if lp ns p + 1 ≤ (i : Int) ∧ (i : Int) < (p : Int) + 1 then (ns.length : Int) - p else 0) (fun i _ => ?_), sumTo_some _ _ _ (by omega) (by omega) (by omega)]
  · rw [show (p : Int) + 1 - (lp ns p + 1) = (p : Int) - lp ns p from by omega]
  · by_cases h : i ≤ p ∧ lp ns p < (i : Int)
    · rw [if_pos h, if_pos ⟨by omega, by omega⟩]
    · rw [if_neg h, if_neg (fun z => h ⟨by omega, by omega⟩)]
theorem end_wins {ns : List Int} {b : Nat} (hb : b ≤ ns.length) : sumTo (fun f => (wunN ns f b : Int)) (b + 1) = sumTo (fun p => if decide ((b : Int) ≤ nx ns p) = true then (p : Int) + 1 else 0) b := by
  have e1 : sumTo (fun f => (wunN ns f b : Int)) (b + 1) = sumTo (fun f => sumTo (fun p => if f ≤ p then (if (b : Int) ≤ nx ns p then (1 : Int) else 0) else 0) b) (b + 1) :=
    sumTo_congr fun f hf => by
      rw [wunN_nexts hb (b - f) f (by omega)]
      have e := sumTo_shift (fun p => if f ≤ p then (if (b : Int) ≤ nx ns p then (1 : Int) else 0) else 0) f (b - f)
      rw [show f + (b - f) = b from by omega] at e
      rw [e, sumTo_congr (n := f) (G := fun _ => 0) (fun k hk => if_neg (by omega)), sumTo_zero, Int.zero_add]
      exact sumTo_congr fun k _ => (if_pos (by omega)).symm
  rw [e1, sumTo_swap]
  refine sumTo_congr fun p hp => ?_
  by_cases h : (b : Int) ≤ nx ns p
  · rw [if_pos (decide_eq_true h)]
    rw [sumTo_congr (G := fun f => if (0 : Int) ≤ (f : Int) ∧ (f : Int) < (p : Int) + 1 then 1 else 0) (fun f _ => ?_), sumTo_count _ _ (by omega) (by omega) _ (by omega)]
    · omega
    · by_cases q : f ≤ p
      · rw [if_pos q, if_pos h, if_pos ⟨by omega, by omega⟩]
      · rw [if_neg q, if_neg (fun z => by omega)]
  · have hd : ¬ decide ((b : Int) ≤ nx ns p) = true := by simp [h]
    rw [if_neg hd]
    simp only [if_neg h]
    rw [sumTo_congr (G := fun _ => 0) (fun k _ => by simp), sumTo_zero]
end Ur

namespace Ur
open PySem L2
/-! ### ends and begins -/
def optV : Option Nat → V
  | none => .non
  | some b => .int (b : Nat)
/-- the least behind with m unlike ones, from k places ahead of the row's end on -/
def endK (ns : List Int) (f : Nat) (m : Int) : Nat → Option Nat
  | 0 => if m ≤ (wunN ns f ns.length : Int) then some ns.length else none
  | k + 1 => if m ≤ (wunN ns f (ns.length - (k + 1)) : Int) then some (ns.length - (k + 1)) else endK ns f m k
def endAt (ns : List Int) (f : Nat) (m : Int) : Option Nat := endK ns f m (ns.length - f)
theorem endK_yes {ns : List Int} {f k : Nat} {m : Int} (h : m ≤ (wunN ns f (ns.length - k) : Int)) : endK ns f m k = some (ns.length - k) := by
  cases k with
  | zero => exact if_pos h
  | succ k => exact if_pos h
theorem endK_no {ns : List Int} {f k : Nat} {m : Int} (h : ¬ m ≤ (wunN ns f (ns.length - (k + 1)) : Int)) : endK ns f m (k + 1) = endK ns f m k := if_neg h
theorem endK_none {ns : List Int} {f : Nat} {m : Int} (h : ¬ m ≤ (wunN ns f ns.length : Int)) : endK ns f m 0 = none := if_neg h
/-- the greatest first, from g on down -/
def begK (ns : List Int) (b : Nat) (m : Int) : Nat → Option Nat
  | 0 => if m ≤ (wunN ns 0 b : Int) then some 0 else none
  | g + 1 => if m ≤ (wunN ns (g + 1) b : Int) then some (g + 1) else begK ns b m g
def begAt (ns : List Int) (b : Nat) (m : Int) : Option Nat := begK ns b m b
theorem begK_yes {ns : List Int} {b g : Nat} {m : Int} (h : m ≤ (wunN ns g b : Int)) : begK ns b m g = some g := by
  cases g with
  | zero => exact if_pos h
  | succ g => exact if_pos h
theorem begK_no {ns : List Int} {b g : Nat} {m : Int} (h : ¬ m ≤ (wunN ns (g + 1) b : Int)) : begK ns b m (g + 1) = begK ns b m g := if_neg h
theorem begK_none {ns : List Int} {b : Nat} {m : Int} (h : ¬ m ≤ (wunN ns 0 b : Int)) : begK ns b m 0 = none := if_neg h
theorem wunN_step {ns : List Int} {f b : Nat} (h : f ≤ b) (hb : b < ns.length) : wunN ns f b ≤ wunN ns f (b + 1) ∧ wunN ns f (b + 1) ≤ wunN ns f b + 1 := by
  rw [wunN_up h hb]
  split <;> omega
theorem wunN_stepD {ns : List Int} {f b : Nat} (h : f < b) (hb : b ≤ ns.length) : wunN ns (f + 1) b ≤ wunN ns f b ∧ wunN ns f b ≤ wunN ns (f + 1) b + 1 := by
  rw [wunN_down h hb]
  split <;> omega
theorem wunN_monoB {ns : List Int} {f : Nat} : ∀ {k b : Nat}, f ≤ b → b + k ≤ ns.length → wunN ns f b ≤ wunN ns f (b + k)
  | 0, _, _, _ => Nat.le_refl _
  | k + 1, b, h, hb => Nat.le_trans (wunN_monoB (k := k) h (by omega)) (wunN_step (b := b + k) (by omega) (by omega)).1
theorem wunN_monoF {ns : List Int} {b : Nat} (hb : b ≤ ns.length) : ∀ {k f : Nat}, f + k ≤ b → wunN ns (f + k) b ≤ wunN ns f b
  | 0, _, _ => Nat.le_refl _
  | k + 1, f, h => Nat.le_trans (wunN_stepD (f := f + k) (by omega) hb).1 (wunN_monoF hb (k := k) (by omega))
/-- what an end is -/
theorem endK_spec {ns : List Int} {f : Nat} {m : Int} : ∀ k : Nat, k ≤ ns.length →
    (endK ns f m k = none ∧ ∀ b, ns.length - k ≤ b → b ≤ ns.length → ¬ m ≤ (wunN ns f b : Int)) ∨
    ∃ e, endK ns f m k = some e ∧ ns.length - k ≤ e ∧ e ≤ ns.length ∧ m ≤ (wunN ns f e : Int) ∧ ∀ b, ns.length - k ≤ b → b < e → ¬ m ≤ (wunN ns f b : Int)
  | 0, _ => by
    by_cases h : m ≤ (wunN ns f ns.length : Int)
    · exact .inr ⟨ns.length, if_pos h, Nat.le_refl _, Nat.le_refl _, h, fun b h1 h2 => absurd h1 (by omega)⟩
    · refine .inl ⟨if_neg h, fun b h1 h2 => ?_⟩
      rw [show b = ns.length from by omega]
      exact h
  | k + 1, hk => by
    by_cases h : m ≤ (wunN ns f (ns.length - (k + 1)) : Int)
    · exact .inr ⟨ns.length - (k + 1), if_pos h, Nat.le_refl _, by omega, h, fun b h1 h2 => absurd h1 (by omega)⟩
    · have er := endK_no h
      rcases endK_spec (ns := ns) (f := f) (m := m) k (by omega) with ⟨e1, e2⟩ | ⟨e, e1, e2, e3, e4, e5⟩
      · refine .inl ⟨er.trans e1, fun b h1 h2 => ?_⟩
        by_cases q : b = ns.length - (k + 1)
        · rw [q]; exact h
        · exact e2 b (by omega) h2
      · refine .inr ⟨e, er.trans e1, by omega, e3, e4, fun b h1 h2 => ?_⟩
        by_cases q : b = ns.length - (k + 1)
        · rw [q]; exact h
        · exact e5 b (by omega) h2
theorem endAt_spec {ns : List Int} {f : Nat} {m : Int} (hf : f ≤ ns.length) :
    (endAt ns f m = none ∧ ∀ b, f ≤ b → b ≤ ns.length → ¬ m ≤ (wunN ns f b : Int)) ∨
    ∃ e, endAt ns f m = some e ∧ f ≤ e ∧ e ≤ ns.length ∧ m ≤ (wunN ns f e : Int) ∧ ∀ b, f ≤ b → b < e → ¬ m ≤ (wunN ns f b : Int) := by
  have h := endK_spec (ns := ns) (f := f) (m := m) (ns.length - f) (by omega)
  rw [show ns.length - (ns.length - f) = f from by omega] at h
  exact h
theorem begK_spec {ns : List Int} {b : Nat} {m : Int} : ∀ g : Nat,
    (begK ns b m g = none ∧ ∀ j, j ≤ g → ¬ m ≤ (wunN ns j b : Int)) ∨
    ∃ e, begK ns b m g = some e ∧ e ≤ g ∧ m ≤ (wunN ns e b : Int) ∧ ∀ j, e < j → j ≤ g → ¬ m ≤ (wunN ns j b : Int)
  | 0 => by
    by_cases h : m ≤ (wunN ns 0 b : Int)
    · exact .inr ⟨0, if_pos h, Nat.le_refl _, h, fun j h1 h2 => absurd h1 (by omega)⟩
    · refine .inl ⟨if_neg h, fun j h1 => ?_⟩
      rw [show j = 0 from by omega]
      exact h
  | g + 1 => by
    by_cases h : m ≤ (wunN ns (g + 1) b : Int)
    · exact .inr ⟨g + 1, if_pos h, Nat.le_refl _, h, fun j h1 h2 => absurd h1 (by omega)⟩
    · have er := begK_no h
      rcases begK_spec (ns := ns) (b := b) (m := m) g with ⟨e1, e2⟩ | ⟨e, e1, e2, e3, e4⟩
      · refine .inl ⟨er.trans e1, fun j h1 => ?_⟩
        by_cases q : j = g + 1
        · rw [q]; exact h
        · exact e2 j (by omega)
      · refine .inr ⟨e, er.trans e1, by omega, e3, fun j h1 h2 => ?_⟩
        by_cases q : j = g + 1
        · rw [q]; exact h
        · exact e4 j h1 (by omega)
/-- an end by what it is -/
theorem endAt_is {ns : List Int} {f e : Nat} {m : Int} (h1 : f ≤ e) (h2 : e ≤ ns.length) (h3 : m ≤ (wunN ns f e : Int)) (h4 : ∀ b, f ≤ b → b < e → ¬ m ≤ (wunN ns f b : Int)) : endAt ns f m = some e := by
  rcases endAt_spec (ns := ns) (f := f) (m := m) (by omega) with ⟨_, e2⟩ | ⟨e', e1, g1, g2, g3, g4⟩
  · exact absurd h3 (e2 e h1 h2)
  · rcases Nat.lt_trichotomy e e' with k | k | k
    · exact absurd h3 (g4 e h1 k)
    · rw [e1, k]
    · exact absurd g3 (h4 e' g1 k)
/-- at an end there are just so many, one ahead of it one less -/
theorem end_just {ns : List Int} {f e : Nat} {m : Int} (h0 : 0 ≤ m) (h1 : f ≤ e) (h2 : e ≤ ns.length) (h3 : m ≤ (wunN ns f e : Int)) (h4 : ∀ b, f ≤ b → b < e → ¬ m ≤ (wunN ns f b : Int)) :
    (wunN ns f e : Int) = m ∧ (0 < m → f < e ∧ (wunN ns f (e - 1) : Int) = m - 1) := by
  by_cases h : f = e
  · rw [← h] at h3 ⊢
    rw [wunN_none] at h3 ⊢
    refine ⟨by omega, fun k => by omega⟩
  · have hb := h4 (e - 1) (by omega) (by omega)
    have hs := wunN_step (ns := ns) (f := f) (b := e - 1) (by omega) (by omega)
    rw [show e - 1 + 1 = e from by omega] at hs
    refine ⟨by omega, fun k => ⟨by omega, by omega⟩⟩
theorem beg_just {ns : List Int} {g b : Nat} {m : Int} (h0 : 0 ≤ m) (h1 : g ≤ b) (h2 : b ≤ ns.length) (h3 : m ≤ (wunN ns g b : Int)) (h4 : ∀ j, g < j → j ≤ b → ¬ m ≤ (wunN ns j b : Int)) :
    (wunN ns g b : Int) = m ∧ (0 < m → g < b ∧ (wunN ns (g + 1) b : Int) = m - 1) := by
  by_cases h : g = b
  · rw [← h] at h3 ⊢
    rw [wunN_none] at h3 ⊢
    refine ⟨by omega, fun k => by omega⟩
  · have hb := h4 (g + 1) (by omega) (by omega)
    have hs := wunN_stepD (ns := ns) (f := g) (b := b) (by omega) h2
    refine ⟨by omega, fun k => ⟨by omega, by omega⟩⟩
end Ur
namespace Ur
open PySem L2
theorem wunN_all (ns : List Int) : wunN ns 0 ns.length = ulen ns := by
  unfold wunN
  rw [List.drop_zero, Nat.sub_zero, List.take_length]
theorem wunN_le {ns : List Int} {f b : Nat} (h : f ≤ b) (hb : b ≤ ns.length) : wunN ns f b ≤ ulen ns := by
  have h1 := wunN_monoB (ns := ns) (f := f) (b := b) (k := ns.length - b) h (by omega)
  rw [show b + (ns.length - b) = ns.length from by omega] at h1
  have h2 := wunN_monoF (ns := ns) (b := ns.length) (Nat.le_refl _) (k := f) (f := 0) (by omega)
  rw [Nat.zero_add, wunN_all] at h2
  omega
theorem end_more (ns : List Int) : endAt ns 0 ((ulen ns : Nat) + 1 : Int) = none := by
  rcases endAt_spec (ns := ns) (f := 0) (m := (ulen ns : Nat) + 1) (Nat.zero_le _) with ⟨e1, _⟩ | ⟨e, _, h1, h2, h3, _⟩
  · exact e1
  · have := wunN_le h1 h2
    omega
theorem beg_more (ns : List Int) : begAt ns ns.length ((ulen ns : Nat) + 1 : Int) = none := by
  rcases begK_spec (ns := ns) (b := ns.length) (m := (ulen ns : Nat) + 1) ns.length with ⟨e1, _⟩ | ⟨e, _, h1, h2, _⟩
  · exact e1
  · have := wunN_le h1 (Nat.le_refl _)
    omega
theorem rgV_ints {b : Int} {n : Nat} (h : b = n) : rgV 0 b = ((List.range n).map fun k => ((k : Nat) : Int)).map V.int := by
  subst h
  unfold rgV
  rw [List.map_map, Int.sub_zero, Int.toNat_natCast]
  exact List.map_congr_left fun k _ => by rw [Int.zero_add]; rfl
end Ur
namespace Ur
open PySem L2
theorem inV_int {ns : List Int} {x : Int} : inV (.int x) (ns.map V.int) = decide (x ∈ ns) := by
  unfold inV
  rw [List.any_map, Bool.eq_iff_iff, List.any_eq_true, decide_eq_true_iff]
  constructor
  · rintro ⟨y, hy, e⟩
    have e2 : (y == x) = true ∨ (x == y) = true := by first | exact Or.inl e | exact Or.inr e
    rcases e2 with e2 | e2
    · exact eq_of_beq e2 ▸ hy
    · exact (eq_of_beq e2).symm ▸ hy
  · intro h
    refine ⟨x, h, ?_⟩
    exact beq_self_eq_true x
theorem in_int {K : PySem.W.Frag} {H : Hp} {a : Addr} {ns : List Int} {x : Int} {Q : VK} (h : SqL K H a (ns.map V.int)) (q : Q (.bl (decide (x ∈ ns))) H) : rIn K false (.int x) (.ref a) H Q :=
  ⟨a, _, rfl, .inl h, rfl, by rw [List.all_map]; exact List.all_eq_true.mpr fun _ _ => rfl, by rw [inV_int]; exact q⟩
theorem notin_int {K : PySem.W.Frag} {H : Hp} {a : Addr} {ns : List Int} {x : Int} {Q : VK} (h : SqL K H a (ns.map V.int)) (q : Q (.bl (!decide (x ∈ ns))) H) : rIn K true (.int x) (.ref a) H Q :=
  ⟨a, _, rfl, .inl h, rfl, by rw [List.all_map]; exact List.all_eq_true.mpr fun _ _ => rfl, by rw [inV_int]; exact q⟩
/-! ### from behind -/
theorem ulen_rev (ns : List Int) : ulen ns.reverse = ulen ns := ulen_congr fun x => List.mem_reverse
theorem wunN_rev {ns : List Int} {b j : Nat} (hj : j ≤ b) (hb : b ≤ ns.length) : wunN (ns.take b).reverse 0 j = wunN ns (b - j) b := by
  unfold wunN
  rw [List.drop_zero, Nat.sub_zero, List.take_reverse, ulen_rev]
  rw [List.length_take, Nat.min_eq_left hb, show b - (b - j) = j from by omega, List.drop_take, show b - (b - j) = j from by omega]
theorem begAt_is {ns : List Int} {b e : Nat} {m : Int} (h1 : e ≤ b) (h3 : m ≤ (wunN ns e b : Int)) (h4 : ∀ j, e < j → j ≤ b → ¬ m ≤ (wunN ns j b : Int)) : begAt ns b m = some e := by
  rcases begK_spec (ns := ns) (b := b) (m := m) b with ⟨_, e2⟩ | ⟨e', e1, g1, g2, g3⟩
  · exact absurd h3 (e2 e h1)
  · rcases Nat.lt_trichotomy e e' with k | k | k
    · exact absurd g2 (h4 e' k g1)
    · exact e1.trans (by rw [k])
    · exact absurd h3 (g3 e k h1)
theorem begAt_rev {ns : List Int} {b : Nat} {m : Int} (hb : b ≤ ns.length) :
    (endAt (ns.take b).reverse 0 m = none ∧ begAt ns b m = none) ∨ ∃ e, endAt (ns.take b).reverse 0 m = some e ∧ e ≤ b ∧ begAt ns b m = some (b - e) := by
  have hl : (ns.take b).reverse.length = b := by rw [List.length_reverse, List.length_take]; omega
  rcases endAt_spec (ns := (ns.take b).reverse) (f := 0) (m := m) (Nat.zero_le _) with ⟨e1, e2⟩ | ⟨e, e1, h1, h2, h3, h4⟩
  · refine .inl ⟨e1, ?_⟩
    rcases begK_spec (ns := ns) (b := b) (m := m) b with ⟨k, _⟩ | ⟨g, _, g1, g2, _⟩
    · exact k
    · have := e2 (b - g) (Nat.zero_le _) (by omega)
      rw [wunN_rev (by omega) hb, show b - (b - g) = g from by omega] at this
      exact absurd g2 this
  · rw [hl] at h2
    refine .inr ⟨e, e1, h2, begAt_is (by omega) ?_ fun j k1 k2 => ?_⟩
    · rw [wunN_rev h2 hb] at h3
      exact h3
    · have := h4 (b - j) (Nat.zero_le _) (by omega)
      rw [wunN_rev (by omega) hb, show b - (b - j) = j from by omega] at this
      exact this
theorem endAt_0 {ns : List Int} {f : Nat} (h : f ≤ ns.length) : endAt ns f 0 = some f := endAt_is (Nat.le_refl f) h (by omega) fun b h1 h2 => absurd h1 (by omega)
theorem begAt_0 (ns : List Int) (b : Nat) : begAt ns b 0 = some b := begAt_is (Nat.le_refl b) (by omega) fun j h1 h2 => absurd h1 (by omega)
/-- the unlike ones of a window, one more -/
theorem uni_up {ns : List Int} {f b : Nat} {x : Int} (h : f ≤ b) (e : ns[b]? = some x) : uni ((ns.drop f).take (b + 1 - f)) = if x ∈ uni ((ns.drop f).take (b - f)) then uni ((ns.drop f).take (b - f)) else uni ((ns.drop f).take (b - f)) ++ [x] := by
  have e1 : (ns.drop f)[b - f]? = some x := by rw [List.getElem?_drop, show f + (b - f) = b from by omega]; exact e
  rw [show b + 1 - f = (b - f) + 1 from by omega, take_snoc e1, uni_snoc]
  by_cases k : x ∈ (ns.drop f).take (b - f)
  · rw [if_pos k, if_pos ((mem_uni _ x).mpr k)]
  · rw [if_neg k, if_neg (fun z => k ((mem_uni _ x).mp z))]
end Ur
namespace Ur
open PySem L2
/-- None or a whole number -/
structure IsO (v : V) : Prop where
  or : v = .non ∨ ∃ i : Int, v = .int i
theorem IsO.opt (x : Option Nat) : IsO (optV x) := by
  cases x with
  | none => exact ⟨.inl rfl⟩
  | some b => exact ⟨.inr ⟨_, rfl⟩⟩
end Ur

namespace Ur
open PySem L2
/-! ### xs[::c] -/
theorem vals_pick {xs : List V} {us : List Value} (r : Vals xs us) : ∀ ids : List Nat, Vals (ids.filterMap fun i => xs[i]?) (ids.filterMap fun i => us.toArray[i]?)
  | [] => .nil
  | i :: ids => by
    have hl := Vals.length r
    have e2 : us.toArray[i]? = us[i]? := by simp
    cases h : xs[i]? with
    | none =>
      have h2 : us[i]? = none := by
        rw [List.getElem?_eq_none_iff] at h ⊢
        omega
      rw [List.filterMap_cons_none h, List.filterMap_cons_none (by rw [e2, h2])]
      exact vals_pick r ids
    | some x =>
      obtain ⟨u, h2, h3⟩ := r.get h
      rw [List.filterMap_cons_some h, List.filterMap_cons_some (b := u) (by rw [e2, h2])]
      exact .cons h3 (vals_pick r ids)
def tStep (K : PySem.W.Frag) (te : TE) : TE := fun σ H Q => te σ H fun x H1 => ∃ a xs, x = .ref a ∧ SqL K H1 a xs ∧ ∀ p ys, (∀ y ∈ ys, y ∈ xs) → ys.length ≤ xs.length → H1 p = none → Q (.ref p) (upd H1 p (.lst ys))
open PySem.Spec PyProof.Rows in
theorem pe_step2 {X : Cx} {e : Expr} {te : TE} {k : Nat} {p1 p3 pos : Pos} (he : PE X e te) : PE X (.Subscript e (.Slice none none (some (.Constant (.int 2) k p1)) p3) pos) (tStep X.K te) := by
  refine ⟨fun pins s σ H Q I h => ?_⟩
  refine Subscript_ (thn (he.run pins s σ H _ I h) fun v s1 ⟨x, H1, I1, r1, q1⟩ => ?_)
  obtain ⟨a, xs, ex, hx, q⟩ := q1
  subst ex
  cases r1
  have hst : PO X (some (.Constant (.int 2) k p1)) (tPart (tC (.int 2))) := po_some pe_int
  refine wpAny_Slice (thn (po_none.run pins s1 σ H1 (fun o H2 => o = none ∧ H2 = H1) I1 ⟨rfl, rfl⟩) fun vl s2 ⟨l, H2, I2, pl, el, e2⟩ => ?_)
  subst el e2
  refine thn (po_none.run pins s2 σ H2 (fun o H3 => o = none ∧ H3 = H2) I2 ⟨rfl, rfl⟩) fun vu s3 ⟨u, H3, I3, pu, eu, e3⟩ => ?_
  subst eu e3
  refine thn (hst.run pins s3 σ H3 (fun o H4 => o = some 2 ∧ H4 = H3) I3 ⟨2, rfl, rfl, rfl⟩) fun vs s4 ⟨o, H4, I4, ps, eo, e4⟩ => ?_
  subst eo e4
  have I5 : Inv X pins σ H4 { s4 with heap := s4.heap.push { cls := .type "slice", data := .fields #[vl, vu, vs] } } := I4.kept (t' := s4.toks) fun b ob q => Heap.get?_push_of_some _ q
  obtain ⟨its, r, ht, hz⟩ := I5.list hx
  have hlen := r.length
  show wpAny (model X.prog X.w) X.A (subscriptTail e (.Slice none none (some (.Constant (.int 2) k p1)) p3) (.ref a) (.ref s4.heap.objs.size)) (EP X pins σ Q) X.xe { s4 with heap := s4.heap.push { cls := .type "slice", data := .fields #[vl, vu, vs] } }
  refine tail_any (ops := [.ref a, .ref s4.heap.objs.size]) ht.isList.typeIs (PySem.slot_list_getitem.lookup) ?_ (by with_unfolding_all rfl)
  refine wpAny_getItem_list_slice ht.isList (Heap.IsSliceOf.new _ vl vu vs) pl pu ps (by decide) ?_ (by rw [List.size_toArray]; omega)
  have hid : ∀ n : Nat, (sliceRange (sliceBounds none none (some 2) n).1 (sliceBounds none none (some 2) n).2.1 (sliceBounds none none (some 2) n).2.2).length ≤ n := fun n => by
    have e : sliceBounds none none (some 2) n = (0, (n : Int), 2) := by simp [sliceBounds]
    rw [e]
    exact sliceRange_length_le 0 n 2 n (fun _ => ⟨by omega, by omega⟩) (fun h => absurd (by decide) h)
  have hid2 := hid its.toArray.size
  unfold slicePick
  generalize hI : sliceRange (sliceBounds none none (some 2) its.toArray.size).1 (sliceBounds none none (some 2) its.toArray.size).2.1 (sliceBounds none none (some 2) its.toArray.size).2.2 = ids at hid2
  have hv := vals_pick r ids
  have hly : (ids.filterMap fun i => xs[i]?).length ≤ xs.length := by
    refine Nat.le_trans (List.length_filterMap_le _ _) ?_
    rw [List.size_toArray] at hid2
    omega
  refine ⟨.ref _, _, I5.laid (t' := s4.toks) (o := .lst (ids.filterMap fun i => xs[i]?)) (fun b ob q => Heap.get?_push_of_some _ q) (Nat.le_refl _) ?_, rfl, q _ _ (fun y hy => ?_) hly (I5.hok.fresh (Nat.le_refl _))⟩
  · exact ⟨by omega, _, 0, hv, Heap.get?_push_size _ rfl⟩
  · obtain ⟨i, _, e⟩ := List.mem_filterMap.mp hy
    exact List.mem_of_getElem? e
end Ur

namespace Ur
open PySem L2
/-! ### windows that were drawn -/
/-- at t a window of a row of n -/
structure WinAt (n : Int) (H : Hp) (t : Addr) : Prop where
  at_ : ∃ f b : Int, H t = some (.tup [.int f, .int b]) ∧ 0 ≤ f ∧ f ≤ b ∧ b ≤ n
theorem WinAt.same {n : Int} {H H' : Hp} {t : Addr} (w : WinAt n H t) (s : Same H H') : WinAt n H' t := by
  obtain ⟨f, b, e, h⟩ := w.at_
  exact ⟨f, b, s _ _ e, h⟩
theorem WinAt.but {n : Int} {H H' : Hp} {t a : Addr} {xs : List V} (w : WinAt n H t) (s : But a H H') (ha : H a = some (.lst xs)) : WinAt n H' t := by
  obtain ⟨f, b, e, h⟩ := w.at_
  exact ⟨f, b, s _ _ (fun k => by rw [k, ha] at e; cases e) e, h⟩
theorem WinAt.upd {n : Int} {H : Hp} {t a : Addr} {xs : List V} {o : HO} (w : WinAt n H t) (ha : H a = some (.lst xs)) : WinAt n (upd H a o) t := by
  obtain ⟨f, b, e, h⟩ := w.at_
  exact ⟨f, b, by rw [upd_ne (fun k => by rw [k, ha] at e; cases e)]; exact e, h⟩
end Ur

namespace Ur
open PySem L2
/-! ### lists of last places -/
theorem lastAt_succ (ns : List Int) (i : Nat) (x : Int) : lastAt ns (i + 1) x = if ns.getD i 0 = x then (i : Int) else lastAt ns i x := rfl
theorem getD_app {r s : List Int} {j : Nat} (h : j < r.length) : (r ++ s).getD j 0 = r.getD j 0 := by
  rw [List.getD_eq_getElem?_getD, List.getD_eq_getElem?_getD, List.getElem?_append_left h]
theorem lastAt_app {r s : List Int} {x : Int} : ∀ {i : Nat}, i ≤ r.length → lastAt (r ++ s) i x = lastAt r i x
  | 0, _ => rfl
  | i + 1, h => by rw [lastAt_succ, lastAt_succ, getD_app h, lastAt_app (Nat.le_of_lt h)]
theorem lastP_snoc (r : List Int) (x : Int) : lastP (r ++ [x]) = lastP r ++ [lastAt r r.length x] := by
  have hl : (r ++ [x]).length = r.length + 1 := by rw [List.length_append]; rfl
  have h := lastP_take (ns := r ++ [x]) (i := r.length) (by omega)
  have e1 : (lastP (r ++ [x])).take (r.length + 1) = lastP (r ++ [x]) := by rw [← hl, ← lastP_len, List.take_length]
  have e2 : (lastP (r ++ [x])).take r.length = lastP r := by
    refine List.ext_getElem? fun k => ?_
    by_cases hk : k < r.length
    · rw [List.getElem?_take, if_pos hk, lastP_get (by omega), lastP_get hk, getD_app hk, lastAt_app (Nat.le_of_lt hk)]
    · rw [List.getElem?_take, if_neg hk, List.getElem?_eq_none (by rw [lastP_len]; omega)]
  have e3 : (r ++ [x]).getD r.length 0 = x := by
    rw [List.getD_eq_getElem?_getD, List.getElem?_append_right (Nat.le_refl _), Nat.sub_self]; rfl
  rw [e1, e2, e3, lastAt_app (Nat.le_refl _)] at h
  exact h
theorem lastAt_not {r : List Int} {x : Int} (h : x ∉ r) : lastAt r r.length x = -1 := by
  rcases lastAt_spec r x r.length with ⟨e, _⟩ | ⟨v, _, h1, h2, _⟩
  · exact e
  · exact absurd (h2 ▸ List.mem_of_getElem? (get_of h1)) h
theorem fresh_int (r : List Int) : ∃ x : Int, x ∉ r := by
  have k : ∀ r : List Int, ∃ b : Int, ∀ y ∈ r, y < b := by
    intro r
    induction r with
    | nil => exact ⟨0, fun y h => nomatch h⟩
    | cons z r ih =>
      obtain ⟨b, hb⟩ := ih
      refine ⟨max b (z + 1), fun y hy => ?_⟩
      rcases List.mem_cons.mp hy with e | e
      · rw [e]; omega
      · have := hb y e; omega
  obtain ⟨b, hb⟩ := k r
  exact ⟨b, fun h => absurd (hb b h) (by omega)⟩
/-- a list of last places, one more: a new number -/
theorem lasts_new (r : List Int) : ∃ x, lastP (r ++ [x]) = lastP r ++ [-1] := by
  obtain ⟨x, hx⟩ := fresh_int r
  exact ⟨x, by rw [lastP_snoc, lastAt_not hx]⟩
/-- .. or that of a place that is none yet -/
theorem lasts_old {r : List Int} {l : Nat} (hl : l < r.length) (hn : (l : Int) ∉ lastP r) : lastP (r ++ [r.getD l 0]) = lastP r ++ [(l : Int)] := by
  rw [lastP_snoc]
  have e : lastAt r r.length (r.getD l 0) = l := by
    refine lastAt_uniq (.inr ⟨l, rfl, hl, rfl⟩) fun j hj hx => ?_
    by_cases h : j ≤ l
    · omega
    · exfalso
      have key : ∀ d j, j = l + 1 + d → j < r.length → r.getD j 0 = r.getD l 0 → False := by
        intro d
        induction d using Nat.strongRecOn with
        | _ d ih =>
          intro j hjd hj hx
          refine hn ?_
          have hg := lastP_get hj
          have : lastAt r j (r.getD j 0) = l := by
            rw [hx]
            refine lastAt_uniq (.inr ⟨l, rfl, by omega, rfl⟩) fun i hi hxi => ?_
            by_cases q : i ≤ l
            · omega
            · exact (ih (i - (l + 1)) (by omega) i (by omega) (by omega) hxi).elim
          rw [this] at hg
          exact List.mem_of_getElem? hg
      exact key (j - (l + 1)) j (by omega) hj hx
  rw [e]
/-- what a last place is -/
theorem lastP_ok {r : List Int} {i : Nat} {l : Int} (h : (lastP r)[i]? = some l) : -1 ≤ l ∧ l < i ∧ (0 ≤ l → l ∉ (lastP r).take i) := by
  have hi : i < r.length := by
    have := (List.getElem?_eq_some_iff.mp h).1
    rwa [lastP_len] at this
  have e := lastP_get hi
  rw [h] at e
  have e := Option.some.inj e
  have hr := lastAt_range r (r.getD i 0) i
  refine ⟨by omega, by omega, fun h0 hm => ?_⟩
  obtain ⟨j, hj⟩ := List.mem_iff_getElem?.mp hm
  rw [List.getElem?_take] at hj
  by_cases q : j < i
  · rw [if_pos q, lastP_get (by omega)] at hj
    have e2 := Option.some.inj hj
    rcases lastAt_spec r (r.getD i 0) i with ⟨k, _⟩ | ⟨v, k1, k2, k3, k4⟩
    · omega
    · rcases lastAt_spec r (r.getD j 0) j with ⟨m, _⟩ | ⟨w, m1, m2, m3, _⟩
      · omega
      · have hvw : v = w := by omega
        exact k4 j (by omega) q (by rw [← m3, ← hvw, k3])
  · rw [if_neg q] at hj; cases hj
theorem lastP_map {f : Int → Int} {r : List Int} (h : InjOn f r) : lastP (r.map f) = lastP r := by
  have g : ∀ j, j < r.length → (r.map f).getD j 0 = f (r.getD j 0) := fun j hj => by
    rw [List.getD_eq_getElem?_getD, List.getElem?_map, get_of hj]; rfl
  have k : ∀ i x, i ≤ r.length → x ∈ r → lastAt (r.map f) i (f x) = lastAt r i x := by
    intro i x
    induction i with
    | zero => intro _ _; rfl
    | succ i ih =>
      intro hi hx
      rw [lastAt_succ, lastAt_succ, g i hi, ih (Nat.le_of_lt hi) hx]
      have hm : r.getD i 0 ∈ r := List.mem_of_getElem? (get_of hi)
      by_cases q : r.getD i 0 = x
      · rw [if_pos q, if_pos (by rw [q])]
      · rw [if_neg q, if_neg (fun z => q (h _ hm _ hx z))]
  refine List.ext_getElem? fun i => ?_
  by_cases hi : i < r.length
  · rw [lastP_get (by rw [List.length_map]; exact hi), lastP_get hi, g i hi, k i _ (Nat.le_of_lt hi) (List.mem_of_getElem? (get_of hi))]
  · rw [List.getElem?_eq_none (by rw [lastP_len, List.length_map]; omega), List.getElem?_eq_none (by rw [lastP_len]; omega)]
theorem plain_inj (r : List Int) : InjOn (fun x => (plainAt r x : Int)) r := fun x hx y hy e => plainAt_inj hx hy (by have e2 : ((plainAt r x : Nat) : Int) = (plainAt r y : Nat) := e; omega)
theorem lastP_plain (r : List Int) : lastP (plainP r) = lastP r := lastP_map (plain_inj r)
/-- -1 stands just where a number is new -/
theorem last_new {r : List Int} {i : Nat} (hi : i < r.length) : lastAt r i (r.getD i 0) < 0 ↔ r.getD i 0 ∉ r.take i := by
  rcases lastAt_spec r (r.getD i 0) i with ⟨e, n⟩ | ⟨v, e, h1, h2, _⟩
  · refine ⟨fun _ hm => ?_, fun _ => by omega⟩
    obtain ⟨j, hj⟩ := List.mem_iff_getElem?.mp hm
    rw [List.getElem?_take] at hj
    by_cases q : j < i
    · rw [if_pos q] at hj; exact n j q (getD_of hj)
    · rw [if_neg q] at hj; cases hj
  · refine ⟨fun h => by omega, fun h => absurd ?_ h⟩
    exact List.mem_iff_getElem?.mpr ⟨v, by rw [List.getElem?_take, if_pos h1, get_of (by omega), h2]⟩
theorem lastP_takeR (r : List Int) (n : Nat) : lastP (r.take n) = (lastP r).take n := by
  by_cases h : n ≤ r.length
  · have e := List.take_append_drop n r
    have hl : (r.take n).length = n := by rw [List.length_take]; omega
    refine List.ext_getElem? fun k => ?_
    rw [List.getElem?_take]
    by_cases hk : k < n
    · have g : (r.take n).getD k 0 = r.getD k 0 := by
        rw [List.getD_eq_getElem?_getD, List.getD_eq_getElem?_getD, List.getElem?_take, if_pos hk]
      have a : lastAt r k (r.getD k 0) = lastAt (r.take n) k (r.getD k 0) := by
        have := lastAt_app (r := r.take n) (s := r.drop n) (x := r.getD k 0) (i := k) (by omega)
        rwa [e] at this
      rw [if_pos hk, lastP_get (by omega), lastP_get (by omega), g, a]
    · rw [if_neg hk, List.getElem?_eq_none (by rw [lastP_len]; omega)]
  · rw [List.take_of_length_le (by omega), List.take_of_length_le (by rw [lastP_len]; omega)]
theorem lastP_drop (r : List Int) (n : Nat) : lastP (r.drop n) = ((lastP r).drop n).map fun l => max (-1) (l - (n : Int)) := by
  refine List.ext_getElem? fun k => ?_
  rw [List.getElem?_map, List.getElem?_drop]
  by_cases hk : n + k < r.length
  · have hkd : k < (r.drop n).length := by rw [List.length_drop]; omega
    have g : ∀ j, (r.drop n).getD j 0 = r.getD (n + j) 0 := fun j => by
      rw [List.getD_eq_getElem?_getD, List.getD_eq_getElem?_getD, List.getElem?_drop]
    rw [lastP_get hkd, lastP_get hk, g]
    show some (lastAt (r.drop n) k (r.getD (n + k) 0)) = some (max (-1) (lastAt r (n + k) (r.getD (n + k) 0) - (n : Int)))
    congr 1
    rcases lastAt_spec r (r.getD (n + k) 0) (n + k) with ⟨e, m⟩ | ⟨v, e, h1, h2, m⟩
    · rw [e]
      refine lastAt_uniq (.inl (by omega)) fun j hj hx => ?_
      rw [g] at hx
      exact absurd hx (m (n + j) (by omega))
    · rw [e]
      by_cases q : n ≤ v
      · refine lastAt_uniq (.inr ⟨v - n, by omega, by omega, by rw [g, show n + (v - n) = v from by omega]; exact h2⟩) fun j hj hx => ?_
        rw [g] at hx
        by_cases p : n + j ≤ v
        · omega
        · exact absurd hx (m (n + j) (by omega) (by omega))
      · refine lastAt_uniq (.inl (by omega)) fun j hj hx => ?_
        rw [g] at hx
        exact absurd hx (m (n + j) (by omega) (by omega))
  · rw [List.getElem?_eq_none (by rw [lastP_len, List.length_drop]; omega), List.getElem?_eq_none (by rw [lastP_len]; omega)]
    rfl
end Ur
namespace Ur
open PySem L2
theorem pop_at {fs : List Int} {i : Int} (h0 : 0 ≤ i) (h1 : i < fs.length) : seqIndex? i (fs.map V.int).length = some i.toNat := by
  rw [List.length_map]
  simp [seqIndex?, show ¬ i < 0 from by omega, h0, h1]
theorem pop_get {fs : List Int} {k : Nat} (h : k < fs.length) : (fs.map V.int)[k]? = some (V.int (fs.getD k 0)) := iv_get' (get_of h)
theorem erase_map (fs : List Int) (k : Nat) : (fs.map V.int).eraseIdx k = (fs.eraseIdx k).map V.int := by
  induction fs generalizing k with
  | nil => rfl
  | cons x fs ih => cases k with
    | zero => rfl
    | succ k => show V.int x :: (fs.map V.int).eraseIdx k = _; rw [ih]; rfl
theorem mem_erase {fs : List Int} {k : Nat} {f : Int} (h : f ∈ fs.eraseIdx k) : f ∈ fs := (List.eraseIdx_sublist fs k).mem h
theorem erase_nodup : ∀ {fs : List Int} {k : Nat}, k < fs.length → fs.Nodup → (fs.eraseIdx k).Nodup ∧ fs.getD k 0 ∉ fs.eraseIdx k
  | x :: fs, 0, _, d => by
    have h := List.nodup_cons.mp d
    exact ⟨h.2, h.1⟩
  | x :: fs, k + 1, h, d => by
    obtain ⟨d1, d2⟩ := List.nodup_cons.mp d
    have hk : k < fs.length := Nat.lt_of_succ_lt_succ h
    obtain ⟨e1, e2⟩ := erase_nodup hk d2
    refine ⟨List.nodup_cons.mpr ⟨fun m => d1 (mem_erase m), e1⟩, fun m => ?_⟩
    have m2 : fs.getD k 0 ∈ x :: fs.eraseIdx k := m
    rcases List.mem_cons.mp m2 with e | e
    · exact d1 (e ▸ List.mem_of_getElem? (get_of hk))
    · exact e2 e
end Ur
namespace Ur
open PySem L2
theorem next_of_last {r : List Int} {i : Nat} (hi : i < r.length) (h : 0 ≤ lp r i) : nx r (lp r i).toNat = i := by
  rcases lastAt_spec r (r.getD i 0) i with ⟨e, _⟩ | ⟨l, e, h1, h2, h3⟩
  · have : lp r i = -1 := e
    omega
  · have e' : lp r i = l := e
    rw [e', Int.toNat_natCast]
    rcases nextUp_spec r l r.length (Nat.le_refl _) with ⟨_, n⟩ | ⟨v, k, k1, k2, k3, k4⟩
    · exact absurd h2.symm (n i h1 hi)
    · have k' : nx r l = v := k
      rw [k']
      rcases Nat.lt_trichotomy v i with q | q | q
      · exact absurd (k3.trans h2) (h3 v k1 q)
      · rw [q]
      · exact absurd h2.symm (k4 i h1 q)
theorem count_map (g : Nat → Int) (t : Int → Bool) : ∀ n : Nat, ((((List.range n).map g).filter t).length : Int) = sumTo (fun k => if t (g k) = true then 1 else 0) n
  | 0 => rfl
  | n + 1 => by
    rw [List.range_succ, List.map_append, List.filter_append, List.length_append, Int.natCast_add, count_map g t n]
    show _ + _ = _ + (if t (g n) = true then 1 else 0)
    cases h : t (g n) with
    | true => rw [List.map_cons, List.filter_cons_of_pos h]; rfl
    | false => rw [List.map_cons, List.filter_cons_of_neg (by rw [h]; exact Bool.false_ne_true)]; rfl
theorem nx_le {r : List Int} {p : Nat} : nx r p ≤ r.length := by
  rcases nextUp_spec r p r.length (Nat.le_refl _) with ⟨e, _⟩ | ⟨v, e, h1, h2, _⟩
  · exact Int.le_of_eq e
  · have : nx r p = v := e
    omega
theorem count_ends (r : List Int) : ((nextP r).filter (fun x => decide (x = (r.length : Int)))).length = ulen r := by
  have h := wunN_nexts (ns := r) (b := r.length) (Nat.le_refl _) r.length 0 (Nat.zero_add _)
  rw [wunN_all] at h
  have c := count_map (fun k => nextUp r k r.length) (fun x => decide (x = (r.length : Int))) r.length
  have e : sumTo (fun k => if decide (nextUp r k r.length = (r.length : Int)) = true then (1 : Int) else 0) r.length = sumTo (fun j => if (r.length : Int) ≤ nextUp r (0 + j) r.length then (1 : Int) else 0) r.length := sumTo_congr fun k _ => by
    have := nx_le (r := r) (p := k)
    have this : nextUp r k r.length ≤ (r.length : Int) := this
    rw [Nat.zero_add]
    by_cases q : (r.length : Int) ≤ nextUp r k r.length
    · rw [if_pos q, if_pos (decide_eq_true (by omega))]
    · rw [if_neg q, if_neg (by rw [decide_eq_false (by omega)]; exact Bool.false_ne_true)]
  have c2 : (((nextP r).filter (fun x => decide (x = (r.length : Int)))).length : Int) = (ulen r : Int) := c.trans (e.trans h.symm)
  omega
theorem count_news (r : List Int) : ((lastP r).filter (fun x => decide (x = -1))).length = ulen r := by
  have h := wunN_lasts (ns := r) (f := 0) r.length (Nat.zero_le _) (Nat.le_refl _)
  rw [wunN_all] at h
  have c := count_map (fun k => lastAt r k (r.getD k 0)) (fun x => decide (x = -1)) r.length
  have e : sumTo (fun k => if decide (lastAt r k (r.getD k 0) = -1) = true then (1 : Int) else 0) r.length = sumTo (fun p => if 0 ≤ p ∧ lastAt r p (r.getD p 0) < ((0 : Nat) : Int) then (1 : Int) else 0) r.length := sumTo_congr fun k _ => by
    have := lastAt_range r (r.getD k 0) k
    by_cases q : lastAt r k (r.getD k 0) < ((0 : Nat) : Int)
    · have hd : decide (lastAt r k (r.getD k 0) = -1) = true := decide_eq_true (by omega)
      rw [if_pos hd, if_pos ⟨Nat.zero_le _, q⟩]
    · have hd : ¬ decide (lastAt r k (r.getD k 0) = -1) = true := fun z => by
        have := of_decide_eq_true z
        omega
      rw [if_neg hd, if_neg (fun z => q z.2)]
  have c2 : (((lastP r).filter (fun x => decide (x = -1))).length : Int) = (ulen r : Int) := c.trans (e.trans h.symm)
  omega
theorem idx_take {r : List Int} {x : Int} {n : Nat} (h : x ∈ r.take n) : (r.take n).idxOf x = r.idxOf x := by
  have hm := List.mem_of_mem_take h
  have hlt : r.idxOf x < n := by
    obtain ⟨j, hj⟩ := List.mem_iff_getElem?.mp h
    rw [List.getElem?_take] at hj
    by_cases q : j < n
    · rw [if_pos q] at hj
      by_cases p : r.idxOf x ≤ j
      · omega
      · exact absurd (List.mem_iff_getElem?.mpr ⟨j, by rw [List.getElem?_take, if_pos (by omega)]; exact hj⟩) (idx_not (ns := r) (x := x))
    · rw [if_neg q] at hj; cases hj
  refine idx_first (by rw [List.getElem?_take, if_pos hlt]; exact idx_get hm) ?_
  rw [List.take_take, Nat.min_eq_left (Nat.le_of_lt hlt)]
  exact idx_not
theorem plainP_take (r : List Int) (n : Nat) : plainP (r.take n) = (plainP r).take n := by
  unfold plainP
  rw [← List.map_take]
  refine List.map_congr_left fun x hx => ?_
  show ((plainAt (r.take n) x : Nat) : Int) = (plainAt r x : Nat)
  unfold plainAt
  have hlt : r.idxOf x ≤ n := by
    have := idx_lt hx
    rw [idx_take hx, List.length_take] at this
    omega
  rw [idx_take hx, List.take_take, Nat.min_eq_left hlt]
end Ur

namespace UrS
open PySem PySem.Spec PyProof.Rows L2
section
variable {prog : Program} {w : World} {A : Around} {E : Value → Shared → Prop} {s : Shared}
/-- xs[:0] = ys, both lists, at the library's level -/
theorem setFront {l sl b : Addr} {xs ys : Array Value} {n m : Nat} {vl vu vs : Value} {Q : Unit → Shared → Prop}
    (h1 : s.heap.get? l = some { cls := .type "list", data := .seq xs n }) (h2 : s.heap.get? b = some { cls := .type "list", data := .seq ys m }) (hne : b ≠ l)
    (h3 : s.heap.IsSliceOf sl vl vu vs) (pl : IsPart vl none) (pu : IsPart vu (some 0)) (ps : IsPart vs none) (hz : xs.size + ys.size ≤ 1000000)
    (q : Q () { s with heap := s.heap.update l (Obj.mapSeq fun zs => zs.extract 0 (0 : Int).toNat ++ ys ++ zs.extract (max (0 : Int) 0).toNat zs.size) }) :
    wpAny (model prog w) A (setItem (.ref l) (.ref sl) (.ref b)) Q E s := by
  have t1 : s.TypeIs (.ref l) "list" := ⟨_, h1, rfl⟩
  have t2 : s.TypeIs (.ref b) "list" := ⟨_, h2, rfl⟩
  obtain ⟨os, g1, g2, g3⟩ := id h3
  have t3 : s.TypeIs (.ref sl) "slice" := ⟨os, g1, g2⟩
  unfold setItem
  try with_reducible refine wpAny_holding ?_
  first | refine wpAny_bind (wpAny_pure ?_) | skip
  refine wpAny_bind (wpAny_sequenceKey t1 (by decide) ?_)
  refine wpAny_bind (wpAny_callSpecial?_slot (name := Str.ofString "__setitem__") t1 PySem.F.slot_list_setitem
    (wpAny_call_entry PySem.F.slot_list_setitem t1 PySem.F.entry_list_setitem ?_ (PySem.args_list_setitem _ _ _)))
  show wpAny _ _ (Builtin.List.listSubscript? (.ref sl) >>= _) _ _ s
  unfold Builtin.List.listSubscript?
  refine wpAny_bind (wpAny_bind (wpAny_specialOf t3 slice_no_index ?_))
  simp only [Option.isNone_none, if_true]
  refine wpAny_pure ?_
  show wpAny _ _ (typeOf (.ref sl) >>= fun _ => _) _ _ s
  refine wpAny_bind (wpAny_typeOf t3 ?_)
  rw [if_neg (by decide)]
  rw [listSliceParts_eq]
  have hst : ¬ ((rawPart none == rawInt 0) = true) := Bool.false_ne_true
  refine wpAny_bind (wpAny_bind (wpAny_field g1 g3 (x := vs) rfl (wpAny_bind (wpAny_listPart ps ?_))))
  rw [if_neg hst]
  refine wpAny_bind (wpAny_field g1 g3 (x := vl) rfl (wpAny_bind (wpAny_listPart pl ?_)))
  refine wpAny_bind (wpAny_field g1 g3 (x := vu) rfl (wpAny_bind (wpAny_listPart pu (wpAny_pure ?_))))
  have hs : ¬ (Builtin.List.listSameRef (.ref l) (.ref b) = true) := fun k => hne (eq_of_beq k).symm
  rw [if_neg hs]
  refine wpAny_bind ?_
  unfold Builtin.List.listAllItems
  refine wpAny_bind (wpAny_typeOf t2 ?_)
  rw [if_pos (by decide)]
  unfold Builtin.List.listItems
  first
  | refine wpAny_bind (wpAny_bind (wpAny_seqItems h2 rfl (wpAny_pure (wpAny_pure ?_))))
  | refine wpAny_bind (wpAny_seqItems h2 rfl (wpAny_pure ?_))
  first
  | refine wpAny_bind (wpAny_bind (wpAny_seqItems h1 rfl (wpAny_pure ?_)))
  | refine wpAny_bind (wpAny_seqItems h1 rfl (wpAny_pure ?_))
  have hb : sliceBounds none (some 0) none xs.size = (0, 0, 1) := by simp [sliceBounds]; omega
  refine wpAny_bind (wpAny_of_eq (sliceIndices_raw none (some 0) none xs.size (by decide)) ?_)
  rw [hb]
  rw [if_pos (by decide)]
  refine wpAny_bind (wpAny_rule ?_)
  have hlong : ¬ (Builtin.List.listTooLong (xs.size + ys.size) = true) := by
    unfold Builtin.List.listTooLong
    rw [sizeLine_eq]
    simp
    omega
  rw [if_neg hlong]
  refine wpAny_bind ?_
  unfold Builtin.List.listUpdate
  refine wpAny_updateSeq h1 rfl ?_ (by rw [sizeLine_eq]; omega) (by rw [sizeLine_eq]; simp; omega)
  refine wpAny_bind ?_
  have he : (xs.extract ((0 : Int), (0 : Int), (1 : Int)).fst.toNat (max ((0 : Int), (0 : Int), (1 : Int)).fst ((0 : Int), (0 : Int), (1 : Int)).2.fst).toNat).toList.reverse = [] := by simp
  rw [he]
  exact wpAny_pure (wpAny_pure ⟨.none, rfl, wpAny_pure q⟩)
end
section
variable {X : Cx}
def gFront (to : TE) : TG := fun v σ H Q => to σ H fun x H1 => ∃ (l b : Addr) (xs ys : List V), x = .ref l ∧ v = .ref b ∧ H1 l = some (.lst xs) ∧ H1 b = some (.lst ys) ∧ b ≠ l ∧ xs.length + ys.length ≤ 1000000 ∧ Q σ (upd H1 l (.lst (ys ++ xs)))
theorem pg_front {o : Expr} {to : TE} {k : Nat} {p1 p3 pos : Pos} (ho : PE X o to)
    (ha : ∀ v, assign (.Subscript o (.Slice none (some (.Constant (.int 0) k p1)) none p3) pos) X.env v = (do
      let ov ← holding [v] (eval o X.env)
      let iv ← holding [v, ov] (eval (.Slice none (some (.Constant (.int 0) k p1)) none p3) X.env)
      standAt pos
      holding [v, ov, iv] (setItem ov iv v)
      release [iv, v, ov] []) := by intro _; rfl) : PG X (.Subscript o (.Slice none (some (.Constant (.int 0) k p1)) none p3) pos) (gFront to) := by
  refine ⟨fun pins s σ H v u Q I r h => ?_⟩
  rw [ha]
  refine wpAny_bind (wpAny_holding (thn (ho.run pins s σ H _ I h) fun ov s1 ⟨x, H1, I1, r1, q1⟩ => ?_))
  refine wpAny_bind (wpAny_holding ?_)
  have hst : PO X (some (.Constant (.int 0) k p1)) (tPart (tC (.int 0))) := po_some pe_int
  refine wpAny_Slice (thn (po_none.run pins s1 σ H1 (fun o H2 => o = none ∧ H2 = H1) I1 ⟨rfl, rfl⟩) fun vl s2 ⟨l0, H2, I2, pl, el, e2⟩ => ?_)
  subst el e2
  refine thn (hst.run pins s2 σ H2 (fun o H3 => o = some 0 ∧ H3 = H2) I2 ⟨0, rfl, rfl, rfl⟩) fun vu s3 ⟨u0, H3, I3, pu, eu, e3⟩ => ?_
  subst eu e3
  refine thn (po_none.run pins s3 σ H3 (fun o H4 => o = none ∧ H4 = H3) I3 ⟨rfl, rfl⟩) fun vs s4 ⟨st, H4, I4, ps, eo, e4⟩ => ?_
  subst eo e4
  obtain ⟨l, b, xs, ys, rfl, rfl, hl, hb, hne, hz, q⟩ := q1
  cases r1
  cases r
  have I5 : Inv X pins σ H4 { s4 with heap := s4.heap.push { cls := .type "slice", data := .fields #[vl, vu, vs] } } := I4.kept (t' := s4.toks) fun c ob z => Heap.get?_push_of_some _ z
  obtain ⟨its, n, rv, ho5, hz5⟩ := I5.lst hl
  obtain ⟨its2, n2, rv2, hb5, _⟩ := I5.lst hb
  have e1 := rv.length
  have e2 := rv2.length
  refine wpAny_bind (wpAny_standAt (wpAny_bind (wpAny_holding ?_)))
  refine setFront ho5 hb5 hne (Heap.IsSliceOf.new _ vl vu vs) pl pu ps (by rw [List.size_toArray, List.size_toArray]; omega) ?_
  refine wpAny_release ⟨σ, _, ?_, q⟩
  refine I5.lstUpd (its' := its2 ++ its) (n' := if ((its2 ++ its).toArray.size == its.toArray.size) = true then n else n + 1) hl ho5 ?_ (rv2.append rv) (by rw [List.length_append]; exact Ur.sz (by omega)) _
  have a1 : its.toArray.extract 0 (Int.toNat 0) = #[] := by simp
  have a2 : its.toArray.extract (max (0 : Int) 0).toNat its.toArray.size = its.toArray := by
    show its.toArray.extract 0 its.toArray.size = its.toArray
    simp
  have a3 : #[] ++ its2.toArray ++ its.toArray = (its2 ++ its).toArray := by simp
  have a4 : its.toArray.extract 0 (Int.toNat 0) ++ its2.toArray ++ its.toArray.extract (max (0 : Int) 0).toNat its.toArray.size = (its2 ++ its).toArray := by rw [a1, a2, a3]
  exact congrArg (fun z : Array Value => ({ cls := .type "list", data := .seq z (if (z.size == its.toArray.size) = true then n else n + 1) } : Obj)) a4
end
end UrS

namespace Ur
open PySem L2
/-! ### first places of a window -/
def firP (ns : List Int) (f b : Int) : List Int := ((List.range (b - f).toNat).filter fun k => decide (lp ns (f.toNat + k) < f)).map fun k => f + (k : Nat)
theorem firP_len {ns : List Int} {f b : Int} (h0 : 0 ≤ f) (h1 : f ≤ b) (h2 : b ≤ ns.length) : (firP ns f b).length = wun ns f b := by
  have e := ulen_win (ns := ns) (f := f.toNat) (b.toNat - f.toNat) (by omega)
  unfold firP
  rw [List.length_map]
  show _ = ulen ((ns.drop f.toNat).take (b.toNat - f.toNat))
  rw [e, show (b - f).toNat = b.toNat - f.toNat from by omega, Int.toNat_of_nonneg h0]
  have e2 : ((lastP ns).drop f.toNat).take (b.toNat - f.toNat) = (List.range (b.toNat - f.toNat)).map fun k => lp ns (f.toNat + k) := by
    refine List.ext_getElem? fun k => ?_
    rw [List.getElem?_take]
    by_cases hk : k < b.toNat - f.toNat
    · rw [if_pos hk, List.getElem?_drop, lastP_get (by omega), List.getElem?_map, List.getElem?_range hk]
      rfl
    · rw [if_neg hk, List.getElem?_eq_none (by rw [List.length_map, List.length_range]; omega)]
  rw [e2, List.filter_map, List.length_map]
  rfl
theorem fir_not {ns : List Int} {f k : Nat} (h : f + k < ns.length) : (!decide (ns.getD (f + k) 0 ∈ (ns.drop f).take k)) = decide (lp ns (f + k) < (f : Int)) := by
  have q := last_in h
  by_cases hl : lp ns (f + k) < (f : Int)
  · have hm : ¬ ns.getD (f + k) 0 ∈ (ns.drop f).take k := fun z => q.mp z hl
    rw [decide_eq_true hl, decide_eq_false hm]; rfl
  · have hm : ns.getD (f + k) 0 ∈ (ns.drop f).take k := q.mpr hl
    rw [decide_eq_false hl, decide_eq_true hm]; rfl
/-! ### frames but at some places -/
def ButL (L : Addr → Prop) (H H' : Hp) : Prop := ∀ b o, ¬ L b → H b = some o → H' b = some o
theorem ButL.refl {L : Addr → Prop} {H : Hp} : ButL L H H := fun _ _ _ e => e
theorem ButL.trans {L : Addr → Prop} {H H1 H2 : Hp} (s : ButL L H H1) (t : ButL L H1 H2) : ButL L H H2 := fun b o n e => t b o n (s b o n e)
theorem ButL.same {L : Addr → Prop} {H H' : Hp} (s : Same H H') : ButL L H H' := fun b o _ e => s b o e
theorem ButL.but {L : Addr → Prop} {H H' : Hp} {a : Addr} (s : But a H H') (l : L a) : ButL L H H' := fun b o n e => s b o (fun k => n (k ▸ l)) e
structure PairL (L : Addr → Prop) (H : Hp) (p : Addr) : Prop where
  both : ¬ L p ∧ ∃ (a b : Addr) (ns : List Int), ¬ L a ∧ ¬ L b ∧ H p = some (.lst [.ref a, .ref b]) ∧ H a = some (.lst (ns.map V.int)) ∧ H b = some (.lst (ns.map V.int))
structure HeldL (L : Addr → Prop) (h : Addr) (H : Hp) (n : Nat) : Prop where
  all : ∃ ps : List Addr, H h = some (.lst (ps.map V.ref)) ∧ ps.length ≤ n ∧ ∀ p ∈ ps, PairL L H p
theorem PairL.step {L : Addr → Prop} {p : Addr} {H H' : Hp} (k : PairL L H p) (b : ButL L H H') : PairL L H' p := by
  obtain ⟨n, x, y, ns, hx, hy, e, e1, e2⟩ := k.both
  exact ⟨n, x, y, ns, hx, hy, b _ _ n e, b _ _ hx e1, b _ _ hy e2⟩
theorem HeldL.step {L : Addr → Prop} {h : Addr} {H H' : Hp} {n : Nat} (k : HeldL L h H n) (b : ButL L H H') (hh : ∀ xs, H h = some (.lst xs) → H' h = some (.lst xs)) : HeldL L h H' n := by
  obtain ⟨ps, e, l, f⟩ := k.all
  exact ⟨ps, hh _ e, l, fun p hp => (f p hp).step b⟩
theorem HeldL.mono {L : Addr → Prop} {h : Addr} {H : Hp} {n m : Nat} (k : HeldL L h H n) (l : n ≤ m) : HeldL L h H m := by
  obtain ⟨ps, e, q, f⟩ := k.all
  exact ⟨ps, e, Nat.le_trans q l, f⟩
theorem HeldL.sub {L L' : Addr → Prop} {h : Addr} {H : Hp} {n : Nat} (k : HeldL L h H n) (l : ∀ b, L' b → L b) : HeldL L' h H n := by
  obtain ⟨ps, e, q, f⟩ := k.all
  refine ⟨ps, e, q, fun p hp => ?_⟩
  obtain ⟨n, x, y, ns, hx, hy, g⟩ := (f p hp).both
  exact ⟨fun z => n (l _ z), x, y, ns, fun z => hx (l _ z), fun z => hy (l _ z), g⟩
/-- .. of a place that is new, too -/
theorem HeldL.more {L : Addr → Prop} {h a : Addr} {H : Hp} {n : Nat} (k : HeldL L h H n) (ha : H a = none) : HeldL (fun x => L x ∨ x = a) h H n := by
  obtain ⟨ps, e, q, f⟩ := k.all
  refine ⟨ps, e, q, fun p hp => ?_⟩
  obtain ⟨n, x, y, ns, hx, hy, g1, g2, g3⟩ := (f p hp).both
  have ne : ∀ z (o : HO), H z = some o → z ≠ a := fun z o e1 e2 => by rw [e2, ha] at e1; cases e1
  exact ⟨fun z => z.elim n (ne _ _ g1), x, y, ns, fun z => z.elim hx (ne _ _ g2), fun z => z.elim hy (ne _ _ g3), g1, g2, g3⟩
end Ur
namespace Ur
open PySem L2
theorem Rdy.butL {C : Addr} {L L' : Addr → Prop} {H H' : Hp} {o : Addr} {ns : List Int} (r : Rdy C L H o ns) (l : ∀ b, L' b → L b) (s : ButL L' H H') : Rdy C L H' o ns := by
  obtain ⟨dx, la, na, e1, e2, e3, f⟩ := r.all
  exact ⟨dx, la, na, s _ _ (fun z => (f o (l _ z)).1 rfl) e1, s _ _ (fun z => (f la (l _ z)).2.1 rfl) e2, s _ _ (fun z => (f na (l _ z)).2.2 rfl) e3, f⟩
theorem HeldL.grow {L : Addr → Prop} {h p : Addr} {H H' : Hp} {n : Nat} {ps : List Addr} (l : ps.length ≤ n) (f : ∀ p ∈ ps, PairL L H p) (b : ButL L H H') (e : H' h = some (.lst ((ps ++ [p]).map V.ref))) (k : PairL L H' p) : HeldL L h H' (n + 1) :=
  ⟨ps ++ [p], e, by rw [List.length_append]; exact Nat.succ_le_succ l, fun q hq => by
    rcases List.mem_append.mp hq with z | z
    · exact (f q z).step b
    · rw [List.mem_singleton.mp z]; exact k⟩
theorem ButL.at_ {L : Addr → Prop} {H H' : Hp} {a : Addr} {o : HO} (s : ButL L H H') (l : L a) : ButL L H (upd H' a o) := fun b u n e => by
  have ne : b ≠ a := fun k => n (by rw [k]; exact l)
  rw [upd_ne ne]; exact s b u n e
theorem ButL.new {L : Addr → Prop} {H H' : Hp} {a : Addr} {o : HO} (s : ButL L H H') (na : H' a = none) : ButL L H (upd H' a o) := fun b u n e => by
  have e' := s b u n e
  rw [upd_ne (ne_of_none e' na)]; exact e'
end Ur
namespace Ur
open PySem L2
theorem PairL.more {L : Addr → Prop} {H : Hp} {p a : Addr} (k : PairL L H p) (ha : H a = none) : PairL (fun x => L x ∨ x = a) H p := by
  obtain ⟨n, x, y, ns, hx, hy, g1, g2, g3⟩ := k.both
  have ne : ∀ z (o : HO), H z = some o → z ≠ a := fun z o e1 e2 => by rw [e2, ha] at e1; cases e1
  exact ⟨fun z => z.elim n (ne _ _ g1), x, y, ns, fun z => z.elim hx (ne _ _ g2), fun z => z.elim hy (ne _ _ g3), g1, g2, g3⟩
theorem ButL.out {L : Addr → Prop} {H H' : Hp} {a : Addr} (s : ButL (fun x => L x ∨ x = a) H H') (ha : H a = none) : ButL L H H' := fun b o n e =>
  s b o (fun z => z.elim n (fun k => by rw [k, ha] at e; cases e)) e
theorem wun_le {ns : List Int} {f b : Int} : wun ns f b ≤ ns.length := by
  refine Nat.le_trans (ulen_le _) ?_
  unfold win
  rw [List.length_take, List.length_drop]
  omega
end Ur

namespace Ur
open PySem L2
/-! ### xs[l:u:c], c above 0 -/
def tStep3 (K : PySem.W.Frag) (te tl tu tc : TE) : TE := fun σ H Q => te σ H fun x H1 => tPart tl σ H1 fun l H2 => tPart tu σ H2 fun u H3 => tPart tc σ H3 fun c H4 =>
  ∃ a xs c', x = .ref a ∧ c = some c' ∧ 0 < c' ∧ SqL K H4 a xs ∧ ∀ p ys, (∀ y ∈ ys, y ∈ xs) → ys.length ≤ xs.length → H4 p = none → Q (.ref p) (upd H4 p (.lst ys))
open PySem.Spec PyProof.Rows in
theorem pe_step3 {X : Cx} {e el eu ec : Expr} {te tl tu tc : TE} {p3 pos : Pos} (he : PE X e te) (hl : PE X el tl) (hu : PE X eu tu) (hc : PE X ec tc) : PE X (.Subscript e (.Slice (some el) (some eu) (some ec) p3) pos) (tStep3 X.K te tl tu tc) := by
  refine ⟨fun pins s σ H Q I h => ?_⟩
  refine Subscript_ (thn (he.run pins s σ H _ I h) fun v s1 ⟨x, H1, I1, r1, q1⟩ => ?_)
  refine wpAny_Slice (thn ((po_some hl).run pins s1 σ H1 _ I1 q1) fun vl s2 ⟨l, H2, I2, pl, q2⟩ => ?_)
  refine thn ((po_some hu).run pins s2 σ H2 _ I2 q2) fun vu s3 ⟨u, H3, I3, pu, q3⟩ => ?_
  refine thn ((po_some hc).run pins s3 σ H3 _ I3 q3) fun vs s4 ⟨c, H4, I4, ps, q4⟩ => ?_
  obtain ⟨a, xs, c', rfl, rfl, hpos, hx, q⟩ := q4
  cases r1
  have I5 : Inv X pins σ H4 { s4 with heap := s4.heap.push { cls := .type "slice", data := .fields #[vl, vu, vs] } } := I4.kept (t' := s4.toks) fun b ob z => Heap.get?_push_of_some _ z
  obtain ⟨its, r, ht, hz⟩ := I5.list hx
  have hlen := r.length
  show wpAny (model X.prog X.w) X.A (subscriptTail e (.Slice (some el) (some eu) (some ec) p3) (.ref a) (.ref s4.heap.objs.size)) (EP X pins σ Q) X.xe { s4 with heap := s4.heap.push { cls := .type "slice", data := .fields #[vl, vu, vs] } }
  refine tail_any (ops := [.ref a, .ref s4.heap.objs.size]) ht.isList.typeIs (PySem.slot_list_getitem.lookup) ?_ (by with_unfolding_all rfl)
  refine wpAny_getItem_list_slice ht.isList (Heap.IsSliceOf.new _ vl vu vs) pl pu ps (fun k => by cases k; omega) ?_ (by rw [List.size_toArray]; omega)
  have hid : ∀ n : Nat, (sliceRange (sliceBounds l u (some c') n).1 (sliceBounds l u (some c') n).2.1 (sliceBounds l u (some c') n).2.2).length ≤ n := fun n => by
    have e1 : (sliceBounds l u (some c') n).2.2 = c' := rfl
    refine sliceRange_length_le _ _ _ n (fun _ => ⟨?_, ?_⟩) (fun k => absurd (by rw [e1]; exact hpos) k)
    · unfold sliceBounds
      cases l with
      | none => simp [hpos]
      | some i => simp [hpos]; omega
    · unfold sliceBounds
      cases u with
      | none => simp [hpos]
      | some i => simp [hpos]; omega
  have hid2 := hid its.toArray.size
  unfold slicePick
  generalize hI : sliceRange (sliceBounds l u (some c') its.toArray.size).1 (sliceBounds l u (some c') its.toArray.size).2.1 (sliceBounds l u (some c') its.toArray.size).2.2 = ids at hid2
  have hv := vals_pick r ids
  have hly : (ids.filterMap fun i => xs[i]?).length ≤ xs.length := by
    refine Nat.le_trans (List.length_filterMap_le _ _) ?_
    rw [List.size_toArray] at hid2
    omega
  refine ⟨.ref _, _, I5.laid (t' := s4.toks) (o := .lst (ids.filterMap fun i => xs[i]?)) (fun b ob z => Heap.get?_push_of_some _ z) (Nat.le_refl _) ?_, rfl, q _ _ (fun y hy => ?_) hly (I5.hok.fresh (Nat.le_refl _))⟩
  · exact ⟨by omega, _, 0, hv, Heap.get?_push_size _ rfl⟩
  · obtain ⟨i, _, e⟩ := List.mem_filterMap.mp hy
    exact List.mem_of_getElem? e
end Ur

/-! list(reversed(l)), l a list: a new list -/
namespace UrV
open PySem PySem.W PySem.Calls PyProof.Rows RT
section
variable {prog : Program} {w : World} {A : Around} {E : Value → Shared → Prop} {s : Shared}
theorem rv_extend {R : Result → Shared → Prop} {it l S : Addr} {items : Array Value} (hh : A.handled = none) (hit : s.heap.IsRevIter it l ((items.size : Int) - 1)) (hl : s.heap.IsList l items) (hne : l ≠ it) (hn : items.size ≤ sizeLine) (hSi : S ≠ it) (hSl : S ≠ l) (res : Value) (c₀ : Nat)
    (hS : s.heap.get? S = some { cls := .type "list", data := .seq #[] c₀ })
    (hR : ∀ h' tk acc c, (∀ b o, b ≠ S → b ≠ it → s.heap.get? b = some o → h'.get? b = some o) → h'.get? S = some { cls := .type "list", dict := none, data := .seq acc c, slots := #[] } → ItemsOf (fun i v => items[items.size - 1 - i]? = some v) acc items.size → R (.ok (.ret res)) { s with heap := h', toks := tk }) :
    wpAny (model prog w) A.in1 (Builtin.List.listExtendWith (.ref S) (.ref it) res)
      (fun fin s' => match fin with | .done f => R (.ok f) s' | .again c' => c'.quiet = true ∧ codeAny (model prog w) A c' R s') (fun e s' => R (.error e) s') s := by
  have W := (Walks.listRev (prog := prog) (w := w) (A := A.in1) hh it l hne items).toS
  have hSf : S ∉ [it, l] := by simp only [List.mem_cons, List.not_mem_nil, or_false, not_or]; exact ⟨hSi, hSl⟩
  have hT : s.TypeIs (.ref it) "list_reverseiterator" := Heap.IsRevIter.typeIs hit
  have h1 : Builtin.List.listSameRef (.ref S) (.ref it) = false := by simp [Builtin.List.listSameRef, hSi]
  unfold Builtin.List.listExtendWith
  refine wpAny_bind (wpAny_typeOf hT ?_)
  rw [if_neg (by rw [h1]; decide)]
  refine wpAny_bind (wpAny_pyIter_revIter hit ?_)
  refine wpAny_bind (wpAny_holding ?_)
  unfold Builtin.List.listLengthHint
  refine wpAny_bind (wpAny_specialOf hT nolen_lri ?_)
  show wpAny _ A.in1 (specialOf (Value.ref it) (Str.ofString "__length_hint__") >>= _) _ _ _
  refine wpAny_bind (wpAny_specialOf hT hint_lri ?_)
  generalize hid : ("list_reverseiterator.__length_hint__" : String) = id0
  wp_delta
  rw [show splitId id0 = some ("list_reverseiterator", "__length_hint__") from by subst hid; decide +kernel]
  subst hid
  refine wpAny_bind (wpAny_isInstance (b := true) hT (by rw [isSubtype_type]; kernel_rfl) ?_)
  refine wpAny_pure ?_
  rw [if_neg (by decide)]
  have e0 : ((items.size : Nat) : Int) - 1 - ((0 : Nat) : Int) = (items.size : Int) - 1 := by omega
  refine wpAny_pure ⟨plainId_quiet PySem.F.plain_extend_loop _, codeAny_extend_loopS W hn _ hSf _ items.size 0 _ _ _ rfl (Nat.zero_le _) ⟨Nat.zero_le _, by rw [e0]; exact hit, hl⟩ hS (ItemsOf.nil _) fun s' acc' c' hm hS' hacc => ?_⟩
  rw [Moved.eq_with hm]
  refine hR s'.heap s'.toks acc' c' (fun b o hb1 hb2 e => hm.heap b o (fun hmem => ?_) e) hS' hacc
  rcases List.mem_cons.mp hmem with e' | hmem
  · exact hb1 e'
  · exact hb2 (List.mem_singleton.mp hmem)
theorem call_list_rev {it l : Addr} {items : Array Value} {Q : Value → Shared → Prop} (hh : A.handled = none) (hit : s.heap.IsRevIter it l ((items.size : Int) - 1)) (hl : s.heap.IsList l items) (hne : l ≠ it) (hn : items.size ≤ sizeLine)
    (hQ : ∀ (h' : Heap) (tk c : Nat) (acc : Array Value), (∀ b o, b ≠ it → s.heap.get? b = some o → h'.get? b = some o) → ItemsOf (fun i v => items[items.size - 1 - i]? = some v) acc items.size →
      h'.get? s.heap.objs.size = some { cls := .type "list", dict := none, data := .seq acc c, slots := #[] } → Q (.ref s.heap.objs.size) { s with heap := h', toks := tk }) :
    wpAny (model prog w) A (call (.type "list") [.ref it]) Q E s := by
  refine callType_codes (Q₁ := fun obj s₁ => obj = .ref s.heap.objs.size ∧ s₁ = { s with heap := s.heap.push { cls := .type "list", data := .seq #[] } }) PySem.F.called_list (PySem.F.typeCall_list_1 _) PySem.F.entry_list_init
    (code_list_new _ ⟨rfl, rfl⟩) fun obj s₁ h₁ => ?_
  obtain ⟨rfl, rfl⟩ := h₁
  have hS : (s.heap.push { cls := .type "list", data := .seq #[] }).get? s.heap.objs.size = some { cls := .type "list", data := .seq #[] } := Heap.get?_push_size _ rfl
  have hil : it < s.heap.objs.size := let ⟨_, z, _⟩ := hit; Heap.lt_size z
  have hll : l < s.heap.objs.size := let ⟨_, z, _⟩ := hl; Heap.lt_size z
  refine ⟨⟨_, hS, rfl⟩, PySem.F.args_list_init_2 _ _, ?_⟩
  show wpAny _ _ (do let old ← Builtin.List.listItems (.ref s.heap.objs.size); Builtin.List.listUpdate (.ref s.heap.objs.size) (fun _ => #[]); letGo old.toList.reverse; Builtin.List.listExtendWith (.ref s.heap.objs.size) (.ref it) .none) _ _ _
  refine wpAny_bind ?_
  unfold Builtin.List.listItems
  refine wpAny_bind (wpAny_seqItems hS rfl (wpAny_pure ?_))
  show wpAny _ _ (updateSeq s.heap.objs.size (fun _ => #[]) >>= fun _ => letGo (#[] : Array Value).toList.reverse >>= fun _ => Builtin.List.listExtendWith (.ref s.heap.objs.size) (.ref it) .none) _ _ _
  refine wpAny_bind (wpAny_updateSeq hS rfl ?_)
  have hS₂ := Heap.get?_update_self (Obj.mapSeq (fun _ => (#[] : Array Value))) hS rfl
  have oth : ∀ b o, s.heap.get? b = some o → ((s.heap.push { cls := .type "list", data := .seq #[] }).update s.heap.objs.size (Obj.mapSeq (fun _ => (#[] : Array Value)))).get? b = some o :=
    fun b o z => (Heap.get?_update_other _ _ (Nat.ne_of_gt (Heap.lt_size z))).trans (Heap.get?_push_of_some _ z)
  refine wpAny_bind (wpAny_letGo ?_)
  refine rv_extend (A := A.in1) hh (hit.at fun o z => oth it o z) (hl.at fun o z => oth l o z) hne hn (Nat.ne_of_gt hil) (Nat.ne_of_gt hll) .none _ hS₂ fun h' tk acc c hk hS' hacc => ?_
  exact ⟨rfl, hQ h' tk c acc (fun b o h1 z => hk b o (Nat.ne_of_lt (Heap.lt_size z)) h1 (oth b o z)) hacc hS'⟩
end
open PySem.Spec L2
def tListRev (K : PySem.W.Frag) (te : TE) : TE := fun σ H Q => te σ H fun v H1 => ∃ (a : Addr) (xs : List V), v = .ref a ∧ SqL K H1 a xs ∧ ∀ q, H1 q = none → Q (.ref q) (upd H1 q (.lst xs.reverse))
theorem pe_listRev {X : Cx} {K : PySem.W.Frag} {e : Expr} {te : TE} {p p2 pos pos2 : Pos} (hk : X.K = K) (hc : X.calm = true) (hm : X.mg "list" = none) (hm2 : X.mg "reversed" = none) (he : PE X e te) (hg : Gl X "list" := by rfl) (hg2 : Gl X "reversed" := by rfl)
    (hs : starEach [e] X.env = (false, eval e X.env) :: starEach [] X.env := by rfl)
    (hs2 : starEach [.Call (.Name "reversed" p2) [e] [] pos2] X.env = (false, eval (.Call (.Name "reversed" p2) [e] [] pos2) X.env) :: starEach [] X.env := by rfl) :
    PE X (.Call (.Name "list" p) [.Call (.Name "reversed" p2) [e] [] pos2] [] pos) (tListRev K te) := by
  subst hk
  refine ⟨fun pins s σ H Q I h => ?_⟩
  refine Call_ (ld_blt I hg hm boot_list (PyProof.Rows.callWith_type1 (args_cons (Call_ (ld_blt I hg2 hm2 PyProof.Rows.boot_reversed (PyProof.Rows.callWith_type1 (args_cons (thn (he.run pins s σ H _ I h) fun u s1 ⟨v, H1, I1, r1, q1⟩ => args_nil ?_) hs) hs rfl))) hs2) hs2 rfl))
  obtain ⟨a, xs, ev, hq, q⟩ := q1
  subst ev
  obtain rfl : u = Value.ref a := r1
  obtain ⟨its, rv, p', hz⟩ := I1.list hq
  refine call_reversed_list p'.isList (args_nil ?_)
  have hl := p'.isList
  obtain ⟨ol, hol, _⟩ := id hl
  have hne : a ≠ s1.heap.objs.size := Nat.ne_of_lt (Heap.lt_size hol)
  have hn : its.toArray.size ≤ sizeLine := by rw [List.size_toArray, ← rv.length]; exact hz
  refine call_list_rev (s := { s1 with heap := s1.heap.push (revObj a ((its.toArray.size : Int) - 1)) }) (I1.ok.hd hc) ⟨_, Heap.get?_push_size _ rfl, rfl, rfl⟩ (hl.push _) hne hn fun h' tk c acc hk hi hS => ?_
  have hsz : (s1.heap.push (revObj a ((its.toArray.size : Int) - 1))).objs.size = s1.heap.objs.size + 1 := Heap.size_push _ _
  have hsz1 : s1.heap.objs.size ≤ (s1.heap.push (revObj a ((its.toArray.size : Int) - 1))).objs.size := by omega
  refine ⟨.ref _, upd H1 _ (.lst xs.reverse), I1.laid (t' := tk) (fun b o e => hk b o (Nat.ne_of_lt (Heap.lt_size e)) (Heap.get?_push_of_some _ e)) hsz1 (show ObjOk X.prog X.w _ _ _ (.lst xs.reverse) from ⟨by rw [List.length_reverse]; exact hz, acc.toList, c, vals_rev rv hi, ?_⟩), rfl, q _ (I1.hok.fresh hsz1)⟩
  rw [Array.toArray_toList]
  exact hS
end UrV

namespace Ur
open PySem L2
/-! ### windows of one width -/
/-- how many unlike numbers all windows of a width have -/
def ofW (ns : List Int) (w : Nat) : List Int := (List.range (ns.length + 1 - w)).map fun f => (wunN ns f (f + w) : Int)
theorem ofW_len (ns : List Int) (w : Nat) : (ofW ns w).length = ns.length + 1 - w := by simp [ofW]
theorem ofW_get {ns : List Int} {w f : Nat} (h : f + w ≤ ns.length) : (ofW ns w)[f]? = some (wunN ns f (f + w) : Int) := by
  unfold ofW
  rw [List.getElem?_map, List.getElem?_range (by omega)]
  rfl
theorem ofW_getD {ns : List Int} {w f : Nat} (h : f + w ≤ ns.length) : (ofW ns w).getD f 0 = (wunN ns f (f + w) : Int) := getD_of (ofW_get h)
/-- a window one further on -/
theorem wunN_slide {ns : List Int} {f w : Nat} (h : f + w < ns.length) : (wunN ns (f + 1) (f + 1 + w) : Int) = (wunN ns f (f + w) : Int) - (if ((f + w : Nat) : Int) ≤ nx ns f then 1 else 0) + (if lp ns (f + w) ≤ (f : Int) then 1 else 0) := by
  rcases Nat.eq_zero_or_pos w with rfl | hw
  · have h1 := lp_range ns f
    have e1 : ((f + 0 : Nat) : Int) ≤ nx ns f := by
      unfold nx
      rcases nextUp_spec ns f ns.length (Nat.le_refl _) with ⟨e, _⟩ | ⟨v, e, h1, _⟩ <;> rw [e] <;> omega
    simp only [Nat.add_zero] at e1 ⊢
    rw [wunN_none, wunN_none, if_pos e1, if_pos (show lp ns f ≤ (f : Int) by omega)]
    rfl
  · have d := wunN_down (ns := ns) (p := f) (b := f + w) (by omega) (by omega)
    have u := wunN_up (ns := ns) (f := f + 1) (b := f + w) (by omega) h
    rw [show f + w + 1 = f + 1 + w from by omega] at u
    rw [u, d]
    have e : (lastAt ns (f + w) (ns.getD (f + w) 0) < ((f + 1 : Nat) : Int)) = (lp ns (f + w) ≤ (f : Int)) := by
      unfold lp
      exact propext ⟨fun h => by omega, fun h => by omega⟩
    show ((_ + (if lastAt ns (f + w) (ns.getD (f + w) 0) < ((f + 1 : Nat) : Int) then 1 else 0) : Nat) : Int) = _
    simp only [e]
    show _ = ((_ + (if ((f + w : Nat) : Int) ≤ nextUp ns f ns.length then 1 else 0) : Nat) : Int) - (if ((f + w : Nat) : Int) ≤ nextUp ns f ns.length then 1 else 0) + _
    (repeat' split) <;> omega
/-- the sums for each width -/
def sumsW (ns : List Int) : List Int := (List.range (ns.length + 1)).map fun w => (ofW ns w).sum
/-- a line of the law's table: the windows from f on -/
def lineW (ns : List Int) (f : Nat) : List Int := (List.range (ns.length - f + 1)).map fun k => (wunN ns f (f + k) : Int)
theorem lineW_len (ns : List Int) (f : Nat) : (lineW ns f).length = ns.length - f + 1 := by simp [lineW]
theorem lineW_get {ns : List Int} {f k : Nat} (h : k < ns.length - f + 1) : (lineW ns f)[k]? = some (wunN ns f (f + k) : Int) := by
  unfold lineW
  rw [List.getElem?_map, List.getElem?_range h]
  rfl
theorem lineW_getD {ns : List Int} {f k : Nat} (h : k < ns.length - f + 1) : (lineW ns f).getD k 0 = (wunN ns f (f + k) : Int) := getD_of (lineW_get h)
/-- what is due of a width, behind the lines ahead of f and k numbers of the line f -/
def dueW (ns : List Int) (f k w : Nat) : Int := sumTo (fun g => if g + w ≤ ns.length then (wunN ns g (g + w) : Int) else 0) f + if w < k then (wunN ns f (f + w) : Int) else 0
theorem dueW_up {ns : List Int} {f w : Nat} (hf : f ≤ ns.length) : dueW ns f (ns.length - f + 1) w = dueW ns (f + 1) 0 w := by
  unfold dueW
  show _ = sumTo _ f + (if f + w ≤ ns.length then (wunN ns f (f + w) : Int) else 0) + 0
  by_cases h : w < ns.length - f + 1
  · rw [if_pos h, if_pos (by omega)]; omega
  · rw [if_neg h, if_neg (by omega)]; omega
theorem dueW_end {ns : List Int} {w : Nat} (hw : w ≤ ns.length) : dueW ns (ns.length + 1) 0 w = (ofW ns w).sum := by
  unfold dueW ofW
  rw [sum_range, sumTo_cut _ (show ns.length + 1 - w ≤ ns.length + 1 by omega)]
  rw [show (if w < 0 then (wunN ns (ns.length + 1) (ns.length + 1 + w) : Int) else 0) = 0 from rfl, Int.add_zero]
  exact sumTo_congr fun g hg => by
    by_cases h : g + w ≤ ns.length
    · rw [if_pos h, if_pos (by omega)]
    · rw [if_neg h, if_neg (by omega)]
/-! ### told things that are held, each a tuple of two lists of the same ints -/
structure PairT (h : Addr) (H : Hp) (p : Addr) : Prop where
  both : ∃ (a b : Addr) (ns : List Int), a ≠ h ∧ b ≠ h ∧ p ≠ h ∧ H p = some (.tup [.ref a, .ref b]) ∧ H a = some (.lst (ns.map V.int)) ∧ H b = some (.lst (ns.map V.int))
structure HeldT (h : Addr) (H : Hp) (n : Nat) : Prop where
  all : ∃ ps : List Addr, H h = some (.lst (ps.map V.ref)) ∧ ps.length ≤ n ∧ ∀ p ∈ ps, PairT h H p
theorem PairT.step {h p : Addr} {H H' : Hp} (k : PairT h H p) (b : But h H H') : PairT h H' p := by
  obtain ⟨x, y, ns, hx, hy, hp, e, e1, e2⟩ := k.both
  exact ⟨x, y, ns, hx, hy, hp, b _ _ hp e, b _ _ hx e1, b _ _ hy e2⟩
theorem HeldT.same {h : Addr} {H H' : Hp} {n : Nat} (k : HeldT h H n) (s : Same H H') : HeldT h H' n := by
  obtain ⟨ps, e, l, f⟩ := k.all
  exact ⟨ps, s _ _ e, l, fun p hp => (f p hp).step (Same.but s)⟩
theorem HeldT.snoc {h p : Addr} {H H' : Hp} {m n : Nat} {ps : List Addr} (e : H h = some (.lst (ps.map V.ref))) (l : ps.length ≤ n) (f : ∀ p ∈ ps, PairT h H p) (b : But h H H') (e' : H' h = some (.lst (ps.map V.ref ++ [V.ref p]))) (g : PairT h H' p) (hm : n + 1 ≤ m) : HeldT h H' m :=
  ⟨ps ++ [p], by rw [e', List.map_append]; rfl, by rw [List.length_append]; exact Nat.le_trans (Nat.succ_le_succ l) hm, fun q hq => by
    rcases List.mem_append.mp hq with k | k
    · exact (f q k).step b
    · rw [List.mem_singleton.mp k]; exact g⟩
end Ur
namespace Ur
open PySem L2
theorem putK_same {kvs : List (Key × V)} {k : Key} {v : V} (h : (valV kvs k).isSome = true) : (putK kvs k v).length = kvs.length := by
  have e : (kvs.any fun kv => decide (kv.1 = k)) = true := (valV_any k kvs).trans h
  unfold putK
  rw [e, if_pos rfl, List.length_map]
theorem putK_none {kvs : List (Key × V)} {k : Key} {v : V} (h : (valV kvs k).isSome = false) : (putK kvs k v).length = kvs.length + 1 :=
  putK_len (Option.not_isSome_iff_eq_none.mp (by rw [h]; exact Bool.false_ne_true))
/-- a dict of the ints that were met -/
structure Met (kvs : List (Key × V)) (W : List Int) : Prop where
  has : ∀ z : Int, (valV kvs (Sum.inl z)).isSome = decide (z ∈ W)
  len : kvs.length = ulen W
theorem Met.nil : Met [] [] := ⟨fun z => by simp [valV_nil], rfl⟩
theorem Met.put {kvs : List (Key × V)} {W : List Int} (m : Met kvs W) (x : Int) (v : V) : Met (putK kvs (Sum.inl x) v) (W ++ [x]) := by
  refine ⟨fun z => ?_, ?_⟩
  · rw [val_put]
    by_cases h : z = x
    · subst h; simp
    · rw [if_neg h, m.has]; simp [h]
  · rw [ulen_snoc]
    by_cases h : x ∈ W
    · rw [if_pos h, putK_same (by rw [m.has]; exact decide_eq_true h), m.len]
    · rw [if_neg h, putK_none (by rw [m.has]; exact decide_eq_false h), m.len]
end Ur
namespace Ur
open PySem L2
/-- what is due of all widths -/
def dueL (ns : List Int) (f k : Nat) : List Int := (List.range (ns.length + 1)).map (dueW ns f k)
theorem dueL_len (ns : List Int) (f k : Nat) : (dueL ns f k).length = ns.length + 1 := by simp [dueL]
theorem dueL_get {ns : List Int} {f k w : Nat} (h : w < ns.length + 1) : (dueL ns f k)[w]? = some (dueW ns f k w) := by
  unfold dueL
  rw [List.getElem?_map, List.getElem?_range h]
  rfl
theorem dueL_0 (ns : List Int) : dueL ns 0 0 = List.replicate (ns.length + 1) 0 := by
  refine List.ext_getElem? fun w => ?_
  by_cases h : w < ns.length + 1
  · rw [dueL_get h, List.getElem?_replicate, if_pos h]
    rfl
  · rw [List.getElem?_eq_none (by rw [dueL_len]; omega), List.getElem?_eq_none (by rw [List.length_replicate]; omega)]
theorem dueL_set {ns : List Int} {f k : Nat} (h : k < ns.length - f + 1) : (dueL ns f k).set k ((dueL ns f k).getD k 0 + (lineW ns f).getD k 0) = dueL ns f (k + 1) := by
  refine List.ext_getElem? fun w => ?_
  by_cases hw : w < ns.length + 1
  · rw [List.getElem?_set, dueL_len, dueL_get hw, dueL_get hw, getD_of (dueL_get (show k < ns.length + 1 by omega)), lineW_getD h]
    unfold dueW
    by_cases e : k = w
    · subst e
      rw [if_pos rfl, if_pos (by omega), if_neg (Nat.lt_irrefl _), if_pos (Nat.lt_succ_self _)]
      simp
    · rw [if_neg e]
      by_cases c : w < k
      · rw [if_pos c, if_pos (by omega)]
      · rw [if_neg c, if_neg (by omega)]
  · rw [List.getElem?_eq_none (by rw [List.length_set, dueL_len]; omega), List.getElem?_eq_none (by rw [dueL_len]; omega)]
theorem dueL_up {ns : List Int} {f : Nat} (hf : f ≤ ns.length) : dueL ns f (ns.length - f + 1) = dueL ns (f + 1) 0 :=
  List.map_congr_left fun _ _ => dueW_up hf
theorem dueL_end (ns : List Int) : dueL ns (ns.length + 1) 0 = sumsW ns :=
  List.map_congr_left fun _ h => dueW_end (by have := List.mem_range.mp h; omega)
theorem sumsW_len (ns : List Int) : (sumsW ns).length = ns.length + 1 := by simp [sumsW]
end Ur

namespace Ur
open PySem PySem.Spec PyProof.Rows L2
/-- xs[i], by values: for xs[i] += e -/
theorem get_list {X : Cx} : PGet X (rIxL X.K) := by
  intro pins s σ H x y v u Q I rx ry h
  obtain ⟨p, xs, i, z, rfl, rfl, hq, he, q⟩ := h
  cases rx
  obtain ⟨t, rfl⟩ := ry
  obtain ⟨its, r, pl, hz⟩ := I.list hq
  obtain ⟨j, h1, h2, h3, h4, h5⟩ := atI_get he
  obtain ⟨w, ew, rw'⟩ := r.get h2
  have hl := r.length
  have hn := line63
  have fin : EP X pins σ Q w s := ⟨z, H, I, rw', q⟩
  by_cases h0 : 0 ≤ i
  · have hj : i.toNat = j := by
      rw [seqIndex_of h0 h5] at h1
      exact Option.some.inj h1
    exact wpAny_getItem_list pl.isList h0 (by omega) (by rw [hj]; simpa using ew) fin
  · have hj : (i + (its.toArray.size : Int)).toNat = j := by
      rw [seqIndex_neg (by omega) h4] at h1
      rw [List.size_toArray, ← hl]
      exact Option.some.inj h1
    exact wpAny_getItem_list_neg pl.isList (by omega) (by rw [List.size_toArray] <;> omega) (by omega) (by rw [hj]; simpa using ew) fin
end Ur

namespace Ur
open PySem L2
/-! ### things of a known kind -/
def Kind (H : Hp) (v : V) : Prop :=
  (∃ i, v = .int i) ∨ (∃ b, v = .bl b) ∨ (∃ x, v = .str x) ∨ v = .non ∨ (∃ p xs, v = .ref p ∧ H p = some (.lst xs)) ∨ (∃ p xs, v = .ref p ∧ H p = some (.tup xs)) ∨ ∃ p kvs, v = .ref p ∧ H p = some (.dK kvs)
theorem Kind.int {H : Hp} {i : Int} : Kind H (.int i) := .inl ⟨i, rfl⟩
theorem Kind.bl {H : Hp} {b : Bool} : Kind H (.bl b) := .inr (.inl ⟨b, rfl⟩)
theorem Kind.str {H : Hp} {x : Str} : Kind H (.str x) := .inr (.inr (.inl ⟨x, rfl⟩))
theorem Kind.non {H : Hp} : Kind H .non := .inr (.inr (.inr (.inl rfl)))
theorem Kind.lst {H : Hp} {p : Addr} {xs : List V} (e : H p = some (.lst xs)) : Kind H (.ref p) := .inr (.inr (.inr (.inr (.inl ⟨p, xs, rfl, e⟩))))
theorem Kind.tup {H : Hp} {p : Addr} {xs : List V} (e : H p = some (.tup xs)) : Kind H (.ref p) := .inr (.inr (.inr (.inr (.inr (.inl ⟨p, xs, rfl, e⟩)))))
theorem Kind.dct {H : Hp} {p : Addr} {kvs : List (Key × V)} (e : H p = some (.dK kvs)) : Kind H (.ref p) := .inr (.inr (.inr (.inr (.inr (.inr ⟨p, kvs, rfl, e⟩)))))
theorem Kind.same {H H' : Hp} {v : V} (k : Kind H v) (s : Same H H') : Kind H' v := by
  rcases k with ⟨i, rfl⟩ | ⟨b, rfl⟩ | ⟨x, rfl⟩ | rfl | ⟨p, xs, rfl, e⟩ | ⟨p, xs, rfl, e⟩ | ⟨p, xs, rfl, e⟩
  · exact .int
  · exact .bl
  · exact .str
  · exact .non
  · exact .lst (s _ _ e)
  · exact .tup (s _ _ e)
  · exact .dct (s _ _ e)
theorem Kind.but {a : Addr} {H H' : Hp} {v : V} (k : Kind H v) (b : But a H H') (h : v ≠ .ref a) : Kind H' v := by
  rcases k with ⟨i, rfl⟩ | ⟨c, rfl⟩ | ⟨x, rfl⟩ | rfl | ⟨p, xs, rfl, e⟩ | ⟨p, xs, rfl, e⟩ | ⟨p, xs, rfl, e⟩
  · exact .int
  · exact .bl
  · exact .str
  · exact .non
  · exact .lst (b _ _ (fun z => h (by rw [z])) e)
  · exact .tup (b _ _ (fun z => h (by rw [z])) e)
  · exact .dct (b _ _ (fun z => h (by rw [z])) e)
/-- a fact laid aside -/
structure Bx (P : Prop) : Prop where
  out : P
theorem nwA {H : Hp} {x p : Addr} {o : HO} (h : H x = some o) (n : H p = none) : x ≠ p := fun e => by rw [e, n] at h; cases h
/-! ### told things that are held, each a tuple of two lists of the same ints, none of them there in B -/
/-- no place of B -/
structure NoneIn (B : Hp) (x : Addr) : Prop where
  out : B x = none
structure PairN (B : Hp) (h : Addr) (H : Hp) (p : Addr) : Prop where
  both : ∃ (a b : Addr) (ns : List Int), a ≠ h ∧ b ≠ h ∧ p ≠ h ∧ NoneIn B a ∧ NoneIn B b ∧ NoneIn B p ∧ H p = some (.tup [.ref a, .ref b]) ∧ H a = some (.lst (ns.map V.int)) ∧ H b = some (.lst (ns.map V.int))
structure HeldN (B : Hp) (h : Addr) (H : Hp) (n : Nat) : Prop where
  all : ∃ ps : List Addr, H h = some (.lst (ps.map V.ref)) ∧ ps.length ≤ n ∧ ∀ p ∈ ps, PairN B h H p
theorem PairN.step {B : Hp} {h p : Addr} {H H' : Hp} (k : PairN B h H p) (b : But h H H') : PairN B h H' p := by
  obtain ⟨x, y, ns, hx, hy, hp, k1, k2, k3, e, e1, e2⟩ := k.both
  exact ⟨x, y, ns, hx, hy, hp, k1, k2, k3, b _ _ hp e, b _ _ hx e1, b _ _ hy e2⟩
theorem HeldN.same {B : Hp} {h : Addr} {H H' : Hp} {n : Nat} (k : HeldN B h H n) (s : Same H H') : HeldN B h H' n := by
  obtain ⟨ps, e, l, f⟩ := k.all
  exact ⟨ps, s _ _ e, l, fun p hp => (f p hp).step (Same.but s)⟩
theorem HeldN.le {B : Hp} {h : Addr} {H : Hp} {n m : Nat} (k : HeldN B h H n) (l : n ≤ m) : HeldN B h H m := by
  obtain ⟨ps, e, l', f⟩ := k.all
  exact ⟨ps, e, Nat.le_trans l' l, f⟩
/-- another object changes, that was there in B -/
theorem HeldN.other {B : Hp} {h a : Addr} {H H' : Hp} {n : Nat} {o : HO} (k : HeldN B h H n) (b : But a H H') (e : B a = some o) (ne : h ≠ a) : HeldN B h H' n := by
  obtain ⟨ps, eh, l, f⟩ := k.all
  refine ⟨ps, b _ _ ne eh, l, fun p hp => ?_⟩
  obtain ⟨x, y, ns, hx, hy, hp, k1, k2, k3, e0, e1, e2⟩ := (f p hp).both
  have no : ∀ {z : Addr}, NoneIn B z → z ≠ a := fun k z => by have k := k.out; rw [z, e] at k; cases k
  exact ⟨x, y, ns, hx, hy, hp, k1, k2, k3, b _ _ (no k3) e0, b _ _ (no k1) e1, b _ _ (no k2) e2⟩
theorem HeldN.snoc {B : Hp} {h p : Addr} {H H' : Hp} {m n : Nat} {ps : List Addr} (l : ps.length ≤ n) (f : ∀ p ∈ ps, PairN B h H p) (b : But h H H') (e' : H' h = some (.lst (ps.map V.ref ++ [V.ref p]))) (g : PairN B h H' p) (hm : n + 1 ≤ m) : HeldN B h H' m :=
  ⟨ps ++ [p], by rw [e', List.map_append]; rfl, by rw [List.length_append]; exact Nat.le_trans (Nat.succ_le_succ l) hm, fun q hq => by
    rcases List.mem_append.mp hq with k | k
    · exact (f q k).step b
    · rw [List.mem_singleton.mp k]; exact g⟩
/-- what there is in B is there in H -/
structure Within (B H : Hp) : Prop where
  free : ∀ x, H x = none → B x = none
theorem Within.none {B H : Hp} {x : Addr} (w : Within B H) (e : H x = none) : NoneIn B x := ⟨w.free x e⟩
theorem Within.refl {B : Hp} : Within B B := ⟨fun _ e => e⟩
theorem Within.upd {B H : Hp} {a : Addr} {o : HO} (w : Within B H) : Within B (upd H a o) := ⟨fun _ e => w.free _ (upd_none e)⟩
theorem Within.same {B H H' : Hp} (w : Within B H) (s : Same H H') : Within B H' := ⟨fun _ e => w.free _ (s.free e)⟩
theorem Within.but {a : Addr} {o : HO} {B H H' : Hp} (w : Within B H) (b : But a H H') (e : H' a = some o) : Within B H' := ⟨fun x n => by
  refine w.free x ?_
  cases k : H x with
  | none => rfl
  | some u =>
    have ne : x ≠ a := fun z => by rw [z, e] at n; cases n
    rw [b _ _ ne k] at n; cases n⟩
theorem HeldN.within {B : Hp} {h : Addr} {H H' : Hp} {n : Nat} (k : HeldN B h H' n) (w : Within B H) (b : But h H H') : Within B H' := by
  obtain ⟨ps, eh, _, _⟩ := k.all
  exact w.but b eh
end Ur

namespace Ur
open PySem L2 PySem.Spec PyProof.Rows
/-! ### an exception in hand -/
/-- isinstance of the exception that the suite holds: a class, or a tuple of classes -/
def rIsX (K : PySem.W.Frag) (cls : Value) (d : Option Addr) (a : Addr) : List V → Hp → VK → Prop := fun xs H Q =>
  ∃ (D : Addr) (c : V) (b : Bool), xs = [.ref a, c] ∧ cls = .ref D ∧ d = none ∧ ExcC K D ∧
    ((∃ u, ClsV c u ∧ PySem.W.kitOne K (.ref D) u = some b) ∨ ∃ (tp : Addr) (cs : List V) (us : List Value), c = .ref tp ∧ H tp = some (.tup cs) ∧ Paired ClsV cs us ∧ PySem.W.kitAny K (.ref D) us = some b) ∧ Q (.bl b) H
theorem call_isX {X : Cx} {K : PySem.W.Frag} (hK : X.K = K) {a : Addr} {cls : Value} {d : Option Addr} {oe : Obj} (hz : Zc cls d oe) (hf : ∃ vs, oe.data = .fields vs) (hp : (a, oe) ∈ X.pn) : CallR X (.builtin "isinstance") (rIsX K cls d a) := by
  subst hK
  intro pins s σ H xs us Q I r h
  obtain ⟨D, c, b, rfl, rfl, rfl, C, hc, q⟩ := h
  obtain ⟨u1, u2, rfl, r1, r2⟩ := vals2 r
  cases (show u1 = Value.ref a from r1)
  obtain ⟨hget, _⟩ := I.pin (a, oe) (List.mem_append.mpr (.inl hp))
  obtain ⟨vs, hv⟩ := hf
  have J : PySem.W.InstAt s.heap a oe D none := by
    obtain ⟨oc, od, oda, osl⟩ := oe
    obtain ⟨h1, h2⟩ := hz
    dsimp only at h1 h2 hv
    subst h1 h2 hv
    exact ⟨hget, rfl, rfl, trivial⟩
  have Z := PySem.W.handS_kitx_exc (x := a) (ox := oe) C.hg C.hk C.hs C.hd C.ha C.hn C.ht C.hm
  rcases hc with ⟨u, k, e⟩ | ⟨tp, cs, ws, rfl, hT, k, e⟩
  · have e2 := k.eq r2
    subst e2
    exact PySem.W.kia_one Z I.kIn J e (fun z => nomatch z) fun tk => ⟨.bl b, H, I.kept (t' := tk) fun _ _ z => z, rfl, q⟩
  · cases (show u2 = Value.ref tp from r2)
    obtain ⟨_, its, rv, o, h1, h2, n, h3⟩ := (show ObjOk X.prog X.w H s.heap tp (.tup cs) from I.hok tp _ hT)
    have e3 := ClsV.all k rv
    subst e3
    obtain ⟨oc, od, dt, sl⟩ := o
    simp only at h2 h3
    subst h2 h3
    exact PySem.W.kia_tup Z I.kIn J h1 e (fun z => nomatch z) fun tk => ⟨.bl b, H, I.kept (t' := tk) fun _ _ z => z, rfl, q⟩
/-- a method of a built-in object, the fragment told -/
theorem pe_bmK {X : Cx} {K : PySem.W.Frag} {o e : Expr} {es : List Expr} {to : TE} {t : TA} {name : Str} {apos cpos : Pos} {T id : String} {r : V → List V → Hp → VK → Prop} (hK : X.K = K) (pa : PlainAttrs T) (slot : Slot T name id) (hty : typeOf (.builtin id) = pure (.type "method_descriptor")) (hm : MtR X id r) (ho : PE X o to) (ha : PA X (e :: es) t)
    (h1 : attributeBase o name X.env (eval o X.env) = eval o X.env := by rfl)
    (h2 : ((backTo cpos (starEach (e :: es) X.env)).all (fun x => !x.1) && (backToKw cpos (keywordEach [] X.env)).all (fun x => x.1.isSome) && decide ((e :: es).length + ([] : List Keyword).length + (if ([] : List Keyword).isEmpty then 0 else 1) < 30)) = true := by rfl)
    (h3 : (apos.endLine == cpos.line) = true := by rfl) (h4 : starEach (e :: es) X.env = (false, eval e X.env) :: starEach es X.env := by rfl) (h5 : (backTo cpos (starEach es X.env)).any (·.1) = false := by rfl) :
    PE X (.Call (.Attribute o name apos) (e :: es) [] cpos) (tBM K T r to t) := by
  subst hK
  exact pe_bm pa slot hty hm ho ha h1 h2 h3 h4 h5
theorem isX1 {K : PySem.W.Frag} {D a C : Addr} {b : Bool} {H : Hp} {Q : VK} (E : ExcC K D) (h : PySem.W.kitOne K (.ref D) (.ref C) = some b) (q : Q (.bl b) H) : rIsX K (.ref D) none a [.ref a, .ref C] H Q :=
  ⟨D, _, b, rfl, rfl, rfl, E, .inl ⟨_, .own C, h⟩, q⟩
theorem isXT {K : PySem.W.Frag} {D a : Addr} {n : String} {b : Bool} {H : Hp} {Q : VK} (E : ExcC K D) (h : PySem.W.kitOne K (.ref D) (.type n) = some b) (q : Q (.bl b) H) : rIsX K (.ref D) none a [.ref a, .ty n] H Q :=
  ⟨D, _, b, rfl, rfl, rfl, E, .inl ⟨_, .ty n, h⟩, q⟩
/-- of none of these classes -/
def NoneOf (K : PySem.W.Frag) (D : Addr) (cs : List Addr) : Prop := ∀ c ∈ cs, PySem.W.kitOne K (.ref D) (.ref c) = some false
theorem NoneOf.any {K : PySem.W.Frag} {D : Addr} : ∀ {cs : List Addr}, NoneOf K D cs → PySem.W.kitAny K (.ref D) (cs.map Value.ref) = some false
  | [], _ => rfl
  | c :: cs, h => kitAny_cons (h c List.mem_cons_self) (fun _ => NoneOf.any fun x hx => h x (List.mem_cons_of_mem _ hx)) (fun z => nomatch z)
theorem NoneOf.pair : ∀ (cs : List Addr), Paired ClsV (cs.map V.ref) (cs.map Value.ref)
  | [] => .nil
  | c :: cs => .cons (.own c) (NoneOf.pair cs)
theorem isX2 {K : PySem.W.Frag} {D a p : Addr} {vs : List V} {cs : List Addr} {H : Hp} {Q : VK} (E : ExcC K D) (h : NoneOf K D cs) (e : H p = some (.tup vs)) (hv : vs = cs.map V.ref) (q : Q (.bl false) H) : rIsX K (.ref D) none a [.ref a, .ref p] H Q :=
  ⟨D, _, false, rfl, rfl, rfl, E, .inr ⟨p, _, _, rfl, by rw [e, hv], NoneOf.pair cs, h.any⟩, q⟩
theorem NoneOf.nil {K : PySem.W.Frag} {D : Addr} : NoneOf K D [] := fun _ h => nomatch h
theorem NoneOf.cons {K : PySem.W.Frag} {D c : Addr} {cs : List Addr} (h : PySem.W.kitOne K (.ref D) (.ref c) = some false) (t : NoneOf K D cs) : NoneOf K D (c :: cs) := fun x hx => by
  rcases List.mem_cons.mp hx with rfl | k
  · exact h
  · exact t x k
theorem rEq_kinds {K : PySem.W.Frag} {H : Hp} {a b : Addr} {Q : VK} (h1 : H a = some (.lst [.bl true, .bl true, .bl false])) (h2 : H b = some (.lst [.bl true, .bl true, .bl false])) (q : Q (.bl true) H) : rEqD K (.ref a) (.ref b) H Q :=
  ⟨_, _, .lst (SqL.of h1) (.cons (.bl _) (.cons (.bl _) (.cons (.bl _) .nil))), .lst (SqL.of h2) (.cons (.bl _) (.cons (.bl _) (.cons (.bl _) .nil))), by decide, by decide, q⟩
end Ur

namespace Ur
open PySem L2
/-! ### range(0, b, c) -/
theorem rgc_up {b c : Int} (hb : 0 ≤ b) (hb' : b ≤ 1000000) (hc : 0 < c) (hc' : c ≤ 1000000) : ∃ n : Nat, (n : Int) ≤ b ∧ (∀ i : Nat, i < n → 0 ≤ 0 + (i : Int) * c ∧ 0 + (i : Int) * c < b) ∧ RgC 0 b c n := by
  by_cases h : 0 < b
  · have h1 : 0 ≤ (b - 0 - 1) / c := Int.ediv_nonneg (by omega) (by omega)
    have h2 : (b - 0 - 1) / c ≤ b - 0 - 1 := Int.ediv_le_self c (by omega)
    have e : Builtin.Range.rangeSize 0 b c = (b - 0 - 1) / c + 1 := by
      unfold Builtin.Range.rangeSize
      rw [if_pos hc, if_pos h]
    refine ⟨((b - 0 - 1) / c + 1).toNat, by omega, fun i hi => ⟨by have := Int.mul_nonneg (Int.natCast_nonneg i) (Int.le_of_lt hc); omega, ?_⟩, by omega, by omega, ?_, ?_⟩
    · have k1 : (i : Int) ≤ (b - 0 - 1) / c := by omega
      have k2 : (i : Int) * c ≤ (b - 0 - 1) / c * c := Int.mul_le_mul_of_nonneg_right k1 (by omega)
      have k3 := Int.ediv_mul_le (b - 0 - 1) (show c ≠ 0 by omega)
      omega
    · unfold Builtin.Range.small
      rw [e, if_pos hc]
      simp only [Builtin.Range.rangeFitsLong, Bool.and_eq_true, Bool.or_eq_true, decide_eq_true_eq, beq_iff_eq]
      omega
    · rw [e]; omega
  · have hb0 : b = 0 := by omega
    subst hb0
    refine ⟨0, by omega, fun i hi => absurd hi (Nat.not_lt_zero _), by omega, by omega, ?_, ?_⟩
    · unfold Builtin.Range.small Builtin.Range.rangeSize
      rw [if_pos hc, if_pos hc]
      simp only [Builtin.Range.rangeFitsLong, Bool.and_eq_true, Bool.or_eq_true, decide_eq_true_eq, beq_iff_eq]
      omega
    · unfold Builtin.Range.rangeSize
      rw [if_pos hc]
      rfl
end Ur

namespace Ur
open PySem L2
/-! ### lists of lists of ints -/
/-- n lists at ls, the k-th of them F k -/
structure RowsF (H : Hp) (ls : List Addr) (n : Nat) (F : Nat → List Int) : Prop where
  len : ls.length = n
  row : ∀ k p, ls[k]? = some p → H p = some (.lst ((F k).map V.int))
theorem RowsF.same {H H' : Hp} {ls : List Addr} {n : Nat} {F : Nat → List Int} (r : RowsF H ls n F) (s : Same H H') : RowsF H' ls n F := ⟨r.len, fun k p e => s _ _ (r.row k p e)⟩
theorem RowsF.but {a : Addr} {H H' : Hp} {ls : List Addr} {n : Nat} {F : Nat → List Int} (r : RowsF H ls n F) (b : But a H H') (no : ∀ p ∈ ls, p ≠ a) : RowsF H' ls n F := ⟨r.len, fun k p e => b _ _ (no p (List.mem_of_getElem? e)) (r.row k p e)⟩
theorem RowsF.congr {H : Hp} {ls : List Addr} {n : Nat} {F G : Nat → List Int} (r : RowsF H ls n F) (e : ∀ k, k < n → F k = G k) : RowsF H ls n G := ⟨r.len, fun k p h => by
  have hk := (List.getElem?_eq_some_iff.mp h).1
  rw [← e k (by have := r.len; omega)]
  exact r.row k p h⟩
theorem RowsF.is {H : Hp} {ls : List Addr} {n : Nat} {F : Nat → List Int} (r : RowsF H ls n F) {p : Addr} (hp : p ∈ ls) : ∃ ns : List Int, H p = some (.lst (ns.map V.int)) := by
  obtain ⟨k, hk⟩ := List.getElem?_of_mem hp
  exact ⟨F k, r.row k p hk⟩
theorem RowsF.snoc {H H4 : Hp} {Dl q : Addr} {qs : List Addr} {i : Nat} {F : Nat → List Int} {o : HO} (r : RowsF H qs i F) (s : Same H H4) (no : ∀ p ∈ qs, p ≠ Dl) (e : H4 q = some (.lst ((F i).map V.int))) (hq : q ≠ Dl) : RowsF (upd H4 Dl o) (qs ++ [q]) (i + 1) F := by
  refine ⟨by rw [List.length_append, r.len]; rfl, fun k p h => ?_⟩
  by_cases hk : k < qs.length
  · rw [List.getElem?_append_left hk] at h
    rw [upd_ne (no p (List.mem_of_getElem? h))]
    exact s _ _ (r.row k p h)
  · have h2 := (List.getElem?_eq_some_iff.mp h).1
    rw [List.length_append] at h2
    have h3 : [q].length = 1 := rfl
    have hk2 : k = qs.length := by omega
    subst hk2
    rw [List.getElem?_append_right (Nat.le_refl _), Nat.sub_self] at h
    cases h
    rw [upd_ne hq, r.len]
    exact e
theorem dpAll_of {K : PySem.W.Frag} {H : Hp} : ∀ (vs : List V) (ds : List PyData), vs.length = ds.length → (∀ (k : Nat) (v : V) (d : PyData), vs[k]? = some v → ds[k]? = some d → Dp K H v d) → DpAll K H vs ds
  | [], [], _, _ => .nil
  | [], _ :: _, h, _ => by cases h
  | _ :: _, [], h, _ => by cases h
  | v :: vs, d :: ds, h, f => .cons (f 0 v d rfl rfl) (dpAll_of vs ds (Nat.succ.inj h) fun k v d h1 h2 => f (k + 1) v d h1 h2)
theorem canLayAll_of : ∀ ds : List PyData, (∀ d ∈ ds, PyData.canLay0 d = true) → PyData.canLayAll0 ds = true
  | [], _ => rfl
  | d :: ds, f => by
    show (PyData.canLay0 d && PyData.canLayAll0 ds) = true
    rw [canLayAll_of ds fun x h => f x (List.mem_cons_of_mem _ h), f d List.mem_cons_self]
    rfl
theorem depthAll_of {m : Nat} : ∀ ds : List PyData, (∀ d ∈ ds, PyData.depth d ≤ m) → PyData.depthAll ds ≤ m
  | [], _ => by
    rw [PyData.depthAll]
    exact Nat.zero_le _
  | d :: ds, f => by
    rw [PyData.depthAll]
    exact Nat.max_le.mpr ⟨f d List.mem_cons_self, depthAll_of ds fun x h => f x (List.mem_cons_of_mem _ h)⟩
theorem eqvAll_refl : ∀ ds : List PyData, (∀ d ∈ ds, PyData.eqv d d = true) → PyData.eqvAll ds ds = true
  | [], _ => rfl
  | d :: ds, f => by
    show (PyData.eqv d d && PyData.eqvAll ds ds) = true
    rw [eqvAll_refl ds fun x h => f x (List.mem_cons_of_mem _ h), f d List.mem_cons_self]
    rfl
/-- the data of such a list -/
def rowsD (n : Nat) (F : Nat → List Int) : List PyData := (List.range n).map fun k => PyData.list ((F k).map PyData.int)
theorem dp_rows {K : PySem.W.Frag} {H : Hp} {a : Addr} {ls : List Addr} {n : Nat} {F : Nat → List Int} (h : SqL K H a (ls.map V.ref)) (r : RowsF H ls n F) : Dp K H (.ref a) (.list (rowsD n F)) := by
  refine .lst h (dpAll_of _ _ (by rw [rowsD, List.length_map, List.length_map, List.length_range, r.len]) fun k v d h1 h2 => ?_)
  rw [List.getElem?_map] at h1
  obtain ⟨p, hp, rfl⟩ := Option.map_eq_some_iff.mp h1
  have hk := (List.getElem?_eq_some_iff.mp hp).1
  rw [rowsD, List.getElem?_map, List.getElem?_range (by have := r.len; omega)] at h2
  cases h2
  exact dp_ints (SqL.of (r.row k p hp))
theorem shaped_rows (n : Nat) (F : Nat → List Int) : SeqAt.shaped (.list (rowsD n F)) = true := by
  refine shaped_of (canLayAll_of _ fun d h => ?_) ?_
  · obtain ⟨k, _, rfl⟩ := List.mem_map.mp h
    exact canLayAll_ints _
  · have h := depthAll_of (m := 2) (rowsD n F) fun d h => by
      obtain ⟨k, _, rfl⟩ := List.mem_map.mp h
      exact depth_ints _
    rw [PyData.depth]
    omega
theorem eqv_rows (n : Nat) (F : Nat → List Int) : PyData.eqv (.list (rowsD n F)) (.list (rowsD n F)) = true := by
  show PyData.eqvAll _ _ = true
  refine eqvAll_refl _ fun d h => ?_
  obtain ⟨k, _, rfl⟩ := List.mem_map.mp h
  rw [eqv_ints]
  exact decide_eq_true rfl
theorem rEq_rows {K : PySem.W.Frag} {H : Hp} {a b : Addr} {ls ms : List Addr} {n : Nat} {F : Nat → List Int} {Q : VK} (h1 : SqL K H a (ls.map V.ref)) (h2 : SqL K H b (ms.map V.ref)) (r1 : RowsF H ls n F) (r2 : RowsF H ms n F) (q : Q (.bl true) H) : rEqD K (.ref a) (.ref b) H Q :=
  ⟨_, _, dp_rows h1 r1, dp_rows h2 r2, shaped_rows n F, shaped_rows n F, by rw [eqv_rows]; exact q⟩
theorem rNe_rows {K : PySem.W.Frag} {H : Hp} {a b : Addr} {ls ms : List Addr} {n : Nat} {F : Nat → List Int} {Q : VK} (h1 : SqL K H a (ls.map V.ref)) (h2 : SqL K H b (ms.map V.ref)) (r1 : RowsF H ls n F) (r2 : RowsF H ms n F) (q : Q (.bl false) H) : rNeD K (.ref a) (.ref b) H Q :=
  ⟨_, _, dp_rows h1 r1, dp_rows h2 r2, shaped_rows n F, shaped_rows n F, by rw [eqv_rows]; exact q⟩
section
variable {K : PySem.W.Frag} {a : Addr} {σ : L2.St} {H1 : Hp} {Dl : Addr} {te : TE} {vs : List Nat} {j : Nat} {lo : Int} {n : Nat} {Qd : Hp → Prop}
/-- [e for k in range(..)], each e a new list of ints -/
theorem lc_rngL (F : Nat → List Int) (hn : n ≤ 1000000) (hD : H1 Dl = none) (hw : ∀ x, wipe ((wipe σ vs).set j (some x)) vs = wipe σ vs)
    (he : ∀ (k : Nat) H', k < n → Same H1 H' → ∀ Q' : VK, (∀ q H4, Same H' H4 → H4 q = some (.lst ((F k).map V.int)) → H' q = none → Q' (.ref q) H4) → te ((wipe σ vs).set j (some (.int (lo + (k : Nat))))) H' Q')
    (hd : ∀ H' qs, Same H1 H' → H' Dl = some (.lst (qs.map V.ref)) → RowsF H' qs n F → (∀ q ∈ qs, H1 q = none ∧ q ≠ Dl) → qs.Nodup → Qd H') :
    ∃ W : Nat → Nat → Hp → Prop, (∃ m, W 0 m (upd H1 Dl (.lst []))) ∧ ∀ i m H, W i m H →
      ((Itr lo n).stop i H ∧ Qd H) ∨ ((Itr lo n).go i H ∧ ∃ Nx : Hp → Prop, (∀ H', Nx H' → ∃ m', m' < m ∧ W (i + 1) m' H') ∧ ∀ x H', (Itr lo n).yld i H x H' → gName j x (wipe σ vs) H' fun σ2 H2 => wipe σ2 vs = wipe σ vs ∧ tYes σ2 H2 fun b H3 =>
        if b = true then te σ2 H3 fun y H4 => ∃ acc, H4 Dl = some (.lst acc) ∧ acc.length < sizeLine ∧ Nx (upd H4 Dl (.lst (acc ++ [y]))) else Nx H3) := by
  refine lc_range (lo := lo) (n := n) (fun i H' => ∃ qs : List Addr, Same H1 H' ∧ H' Dl = some (.lst (qs.map V.ref)) ∧ RowsF H' qs i F ∧ (∀ q ∈ qs, H1 q = none ∧ q ≠ Dl) ∧ qs.Nodup) ⟨[], same_new hD, upd_same, ⟨rfl, fun k p h => nomatch h⟩, (fun q h => nomatch h), List.nodup_nil⟩ (fun i H' hi p => ?_) (fun H' p => ?_)
  · obtain ⟨qs, s1, eD, r, f, nd⟩ := p
    refine ⟨hw _, ?_⟩
    refine tyes_ok ?_
    refine he i H' hi s1 _ fun q H4 s e nq => ?_
    have qD : q ≠ Dl := fun z => by rw [z, eD] at nq; cases nq
    refine ⟨_, s _ _ eD, szl (by rw [List.length_map, r.len]; omega), qs ++ [q], same_upd' hD (s1.trans s), ?_, r.snoc s (fun p hp => (f p hp).2) e qD, fun p hp => ?_, ?_⟩
    · rw [upd_same, List.map_append]; rfl
    · rcases List.mem_append.mp hp with h | h
      · exact f p h
      · rw [List.mem_singleton.mp h]; exact ⟨s1.free nq, qD⟩
    · rw [List.nodup_append]
      refine ⟨nd, List.nodup_cons.mpr ⟨List.not_mem_nil, List.nodup_nil⟩, fun x hx y hy z => ?_⟩
      rw [List.mem_singleton.mp hy] at z
      obtain ⟨ms, em⟩ := r.is hx
      rw [z, nq] at em
      cases em
  · obtain ⟨qs, s1, eD, r, f, nd⟩ := p
    exact hd H' qs s1 eD r f nd
/-- [e for p in a list], each e a new list of ints -/
theorem lc_refsL {ls : List Addr} (F : Nat → List Int) (hn : ls.length ≤ 1000000) (ha : SqL K H1 a (ls.map V.ref)) (hD : H1 Dl = none) (hw : ∀ x, wipe ((wipe σ vs).set j (some x)) vs = wipe σ vs)
    (he : ∀ (k : Nat) p H', ls[k]? = some p → Same H1 H' → ∀ Q' : VK, (∀ q H4, Same H' H4 → H4 q = some (.lst ((F k).map V.int)) → H' q = none → Q' (.ref q) H4) → te ((wipe σ vs).set j (some (.ref p))) H' Q')
    (hd : ∀ H' qs, Same H1 H' → H' Dl = some (.lst (qs.map V.ref)) → RowsF H' qs ls.length F → (∀ q ∈ qs, H1 q = none ∧ q ≠ Dl) → qs.Nodup → Qd H') :
    ∃ W : Nat → Nat → Hp → Prop, (∃ m, W 0 m (upd H1 Dl (.lst []))) ∧ ∀ i m H, W i m H →
      ((Itl K a).stop i H ∧ Qd H) ∨ ((Itl K a).go i H ∧ ∃ Nx : Hp → Prop, (∀ H', Nx H' → ∃ m', m' < m ∧ W (i + 1) m' H') ∧ ∀ x H', (Itl K a).yld i H x H' → gName j x (wipe σ vs) H' fun σ2 H2 => wipe σ2 vs = wipe σ vs ∧ tYes σ2 H2 fun b H3 =>
        if b = true then te σ2 H3 fun y H4 => ∃ acc, H4 Dl = some (.lst acc) ∧ acc.length < sizeLine ∧ Nx (upd H4 Dl (.lst (acc ++ [y]))) else Nx H3) := by
  refine lc_list (K := K) (a := a) (xs := ls.map V.ref) (fun i H' => ∃ qs : List Addr, Same H1 H' ∧ H' Dl = some (.lst (qs.map V.ref)) ∧ RowsF H' qs i F ∧ (∀ q ∈ qs, H1 q = none ∧ q ≠ Dl) ∧ qs.Nodup) ⟨[], same_new hD, upd_same, ⟨rfl, fun k p h => nomatch h⟩, (fun q h => nomatch h), List.nodup_nil⟩ (fun i H' _ p => ?_) (fun i x H' hx p => ?_) (fun H' p => ?_)
  · obtain ⟨qs, s1, _⟩ := p
    exact s1.seq ha
  · obtain ⟨qs, s1, eD, r, f, nd⟩ := p
    rw [List.getElem?_map] at hx
    obtain ⟨p0, hp0, rfl⟩ := Option.map_eq_some_iff.mp hx
    have hi := (List.getElem?_eq_some_iff.mp hp0).1
    refine ⟨hw _, ?_⟩
    refine tyes_ok ?_
    refine he i p0 H' hp0 s1 _ fun q H4 s e nq => ?_
    have qD : q ≠ Dl := fun z => by rw [z, eD] at nq; cases nq
    refine ⟨_, s _ _ eD, szl (by rw [List.length_map, r.len]; omega), qs ++ [q], same_upd' hD (s1.trans s), ?_, r.snoc s (fun p hp => (f p hp).2) e qD, fun p hp => ?_, ?_⟩
    · rw [upd_same, List.map_append]; rfl
    · rcases List.mem_append.mp hp with h | h
      · exact f p h
      · rw [List.mem_singleton.mp h]; exact ⟨s1.free nq, qD⟩
    · rw [List.nodup_append]
      refine ⟨nd, List.nodup_cons.mpr ⟨List.not_mem_nil, List.nodup_nil⟩, fun x hx y hy z => ?_⟩
      rw [List.mem_singleton.mp hy] at z
      obtain ⟨ms, em⟩ := r.is hx
      rw [z, nq] at em
      cases em
  · obtain ⟨qs, s1, eD, r, f, nd⟩ := p
    rw [List.length_map] at r
    exact hd H' qs s1 eD r f nd
end
end Ur
namespace Ur
open PySem L2
theorem lineW_drop {ns : List Int} {k : Nat} (h : k ≤ ns.length) : lineW (ns.drop k) 0 = lineW ns k := by
  unfold lineW
  rw [List.length_drop, Nat.sub_zero]
  refine List.map_congr_left fun j _ => ?_
  show ((ulen (((ns.drop k).drop 0).take (0 + j - 0)) : Nat) : Int) = ((ulen ((ns.drop k).take (k + j - k)) : Nat) : Int)
  rw [List.drop_zero, show 0 + j - 0 = j by omega, show k + j - k = j by omega]
end Ur
namespace Ur
open PySem L2
/-- all of ls are other places than a -/
structure Off (ls : List Addr) (a : Addr) : Prop where
  out : ∀ p ∈ ls, p ≠ a
theorem RowsF.offNew {H : Hp} {x : Addr} {ls : List Addr} {n : Nat} {F : Nat → List Int} (r : RowsF H ls n F) (e : H x = none) : Off ls x := ⟨fun p hp z => by
  obtain ⟨ms, em⟩ := r.is hp
  rw [z, e] at em
  cases em⟩
theorem offOld {H : Hp} {x : Addr} {o : HO} {ls : List Addr} (f : ∀ p ∈ ls, H p = none) (e : H x = some o) : Off ls x := ⟨fun p hp z => by
  have h := f p hp
  rw [z, e] at h
  cases h⟩
theorem RowsF.upd {H : Hp} {x : Addr} {o : HO} {ls : List Addr} {n : Nat} {F : Nat → List Int} (r : RowsF H ls n F) (f : Off ls x) : RowsF (upd H x o) ls n F := ⟨r.len, fun k p e => by
  rw [upd_ne (f.out p (List.mem_of_getElem? e))]
  exact r.row k p e⟩
theorem nodup_idx {α : Type} {ls : List α} (nd : ls.Nodup) {i k : Nat} {p : α} (h1 : ls[i]? = some p) (h2 : ls[k]? = some p) : i = k := by
  obtain ⟨a1, b1⟩ := List.getElem?_eq_some_iff.mp h1
  obtain ⟨a2, b2⟩ := List.getElem?_eq_some_iff.mp h2
  have w := List.pairwise_iff_getElem.mp nd
  rcases Nat.lt_trichotomy i k with c | c | c
  · exact absurd (b1.trans b2.symm) (w i k a1 a2 c)
  · exact c
  · exact absurd (b2.trans b1.symm) (w k i a2 a1 c)
/-- one of the lists has changed -/
theorem RowsF.set {H H' : Hp} {qs : List Addr} {n i : Nat} {l : Addr} {F : Nat → List Int} {ns : List Int} (r : RowsF H qs n F) (nd : qs.Nodup) (hl : qs[i]? = some l) (e : H' l = some (.lst (ns.map V.int))) (b : But l H H') : RowsF H' qs n (fun k => if k = i then ns else F k) := ⟨r.len, fun k p h => by
  show _ = some (HO.lst ((if k = i then ns else F k).map V.int))
  by_cases hk : k = i
  · subst hk
    rw [hl] at h
    cases h
    rw [if_pos rfl]
    exact e
  · rw [if_neg hk]
    refine b _ _ (fun z => hk ?_) (r.row k p h)
    exact nodup_idx nd h (by rw [hl, z])⟩
/-! ### told tables that are held, each a tuple of two of the same -/
structure PairR (h : Addr) (H : Hp) (p : Addr) : Prop where
  both : ∃ (a b : Addr) (ls ms : List Addr) (n : Nat) (F : Nat → List Int), a ≠ h ∧ b ≠ h ∧ p ≠ h ∧ Off ls h ∧ Off ms h ∧ H p = some (.tup [.ref a, .ref b]) ∧ H a = some (.lst (ls.map V.ref)) ∧ H b = some (.lst (ms.map V.ref)) ∧ RowsF H ls n F ∧ RowsF H ms n F
structure HeldR (h : Addr) (H : Hp) (n : Nat) : Prop where
  all : ∃ ps : List Addr, H h = some (.lst (ps.map V.ref)) ∧ ps.length ≤ n ∧ ∀ p ∈ ps, PairR h H p
theorem PairR.step {h p : Addr} {H H' : Hp} (k : PairR h H p) (b : But h H H') : PairR h H' p := by
  obtain ⟨x, y, ls, ms, n, F, hx, hy, hp, o1, o2, e, e1, e2, r1, r2⟩ := k.both
  exact ⟨x, y, ls, ms, n, F, hx, hy, hp, o1, o2, b _ _ hp e, b _ _ hx e1, b _ _ hy e2, r1.but b o1.out, r2.but b o2.out⟩
theorem HeldR.same {h : Addr} {H H' : Hp} {n : Nat} (k : HeldR h H n) (s : Same H H') : HeldR h H' n := by
  obtain ⟨ps, e, l, f⟩ := k.all
  exact ⟨ps, s _ _ e, l, fun p hp => (f p hp).step (Same.but s)⟩
theorem HeldR.snoc {h p : Addr} {H H' : Hp} {m n : Nat} {ps : List Addr} (l : ps.length ≤ n) (f : ∀ p ∈ ps, PairR h H p) (b : But h H H') (e' : H' h = some (.lst (ps.map V.ref ++ [V.ref p]))) (g : PairR h H' p) (hm : n + 1 ≤ m) : HeldR h H' m :=
  ⟨ps ++ [p], by rw [e', List.map_append]; rfl, by rw [List.length_append]; exact Nat.le_trans (Nat.succ_le_succ l) hm, fun q hq => by
    rcases List.mem_append.mp hq with k | k
    · exact (f q k).step b
    · rw [List.mem_singleton.mp k]; exact g⟩
end Ur
namespace Ur
open PySem L2
theorem len_refs {K : PySem.W.Frag} {H : Hp} {p : Addr} {ls : List Addr} {Q : VK} (h : SqL K H p (ls.map V.ref)) (q : Q (.int ls.length) H) : rLenI K [.ref p] H Q :=
  ⟨p, _, rfl, Or.inl h, by rw [List.length_map]; exact q⟩
end Ur
namespace Ur
open PySem L2
/-- while, the test's answer told; Pv by a measure; the search does not open what is due of a turn -/
theorem while_iv {tb : TS} {D : Ends} {σ : L2.St} {H : Hp} {c : TT} (Pv : Nat → L2.St → Hp → Prop) (m0 : Nat) (h0 : Pv m0 σ H)
    (hs : ∀ m σ H, Pv m σ H → ∃ b, (∀ Q : Bool → Hp → Prop, Q b H → c σ H Q) ∧
      (b = true → tb { D with nx := fun σ' H' => Iv (∃ m', m' < m ∧ Pv m' σ' H'), ct := fun σ' H' => Iv (∃ m', m' < m ∧ Pv m' σ' H'), bk := D.nx } σ H) ∧ (b = false → D.nx σ H)) : tWhile c tb D σ H := by
  refine ⟨Pv, ⟨m0, h0⟩, fun m σ H p => ?_⟩
  obtain ⟨b, hb, h1, h2⟩ := hs m σ H p
  refine hb _ ?_
  cases b with
  | true => exact (if_pos rfl).mpr ⟨_, fun _ _ n => n.out, h1 rfl⟩
  | false => exact (if_neg Bool.false_ne_true).mpr (h2 rfl)
theorem getD_mem {ns : List Int} {k : Nat} (h : k < ns.length) : ns.getD k 0 ∈ ns := List.mem_of_getElem? (get_of h)
theorem getD_all {ns : List Int} {k : Nat} {P : Int → Prop} (h : k < ns.length) (f : ∀ x ∈ ns, P x) : P (ns.getD k 0) := f _ (getD_mem h)
end Ur
namespace Ur
open PySem L2
/-- while, the test may lay new things; the body is reached where the measure is above 0 only -/
theorem while_t {tb : TS} {D : Ends} {σ : L2.St} {H : Hp} {c : TT} (Pv : Nat → L2.St → Hp → Prop) (m0 : Nat) (h0 : Pv m0 σ H)
    (ht : ∀ m σ H, Pv m σ H → ∀ Q : Bool → Hp → Prop, (∀ b H', Same H H' → (b = true → 0 < m) → Q b H') → c σ H Q)
    (hs : ∀ m σ H H', Pv m σ H → 0 < m → Same H H' → tb { D with nx := fun σ' H' => Iv (∃ m', m' < m ∧ Pv m' σ' H'), ct := fun σ' H' => Iv (∃ m', m' < m ∧ Pv m' σ' H'), bk := D.nx } σ H')
    (hd : ∀ m σ H H', Pv m σ H → Same H H' → D.nx σ H') : tWhile c tb D σ H := by
  refine ⟨Pv, ⟨m0, h0⟩, fun m σ H p => ht m σ H p _ fun b H' s hb => ?_⟩
  cases b with
  | true => exact (if_pos rfl).mpr ⟨_, fun _ _ n => n.out, hs m σ H H' p (hb rfl) s⟩
  | false => exact (if_neg Bool.false_ne_true).mpr (hd m σ H H' p s)
end Ur
namespace Ur
open PySem L2
/-! ### a window's numbers, held -/
def hldF (d : Addr) : List (Str × V) := putF "times" (.ref d) []
theorem hld_times {d : Addr} : (hldF d).lookup ("times" : Str) = some (.ref d) := by
  unfold hldF
  rw [lookup_putF, if_pos rfl]
theorem hld_no {d : Addr} {m : Str} (h : ¬ m = "times") : (hldF d).lookup m = none := by
  unfold hldF
  rw [lookup_putF, if_neg h]
  rfl
end Ur
namespace Ur
open PySem L2
theorem pop1_int {H : Hp} {a : Addr} {kvs : List (Key × V)} {n : Int} {v : V} {Q : VK} (h : H a = some (.dK kvs)) (hv : valV kvs (Sum.inl n) = some v) (q : Q v (upd H a (.dK (dropK kvs (Sum.inl n))))) :
    ∃ (kvs : List (Key × V)) (k : Key) (v : V), H a = some (.dK kvs) ∧ V.int n = kV k ∧ valV kvs k = some v ∧ Q v (upd H a (.dK (dropK kvs k))) := ⟨kvs, Sum.inl n, v, h, rfl, hv, q⟩
end Ur
namespace Ur
open PySem L2
theorem pg_tupK {X : Cx} {K : PySem.W.Frag} (hk : X.K = K) {es : List Expr} {k : Nat} {pos : Pos} {t : TGs} {n : Nat} (hc : X.calm = true) (h : PGs X es t)
    (hn : (assignEach es X.env).length = n := by rfl) (hst : (assignEach es X.env).findIdx? (·.1) = none := by rfl) : PG X (.Tuple es k pos) (gTup K n t) := by
  subst hk
  exact pg_tup hc h hn hst
end Ur
namespace Ur
open PySem L2
/-! ### repr -/
/-- repr of data laid in the heap -/
def rRepr (K : PySem.W.Frag) : List V → Hp → VK → Prop := fun xs H Q => ∃ (p : Addr) (d : PyData), xs = [.ref p] ∧ Dp K H (.ref p) d ∧
  d.showable = true ∧ d.hasDict = false ∧ d.depth ≤ 64 ∧ d.shown.length ≤ sizeLine ∧ Q (.str d.shown) H
/-- data whose repr is told -/
structure GoodD (d : PyData) : Prop where
  show_ : d.showable = true
  dict : d.hasDict = false
  deep : d.depth ≤ 64
  fits : d.shown.length ≤ sizeLine
abbrev SmI (i : Int) : Prop := -1000000 < i ∧ i < 1000000
theorem weight_sm {i : Int} (h : SmI i) : PyData.weight (.int i) ≤ 20 := by
  rw [PyData.weight]
  by_cases c : (i == 0) = true
  · rw [if_pos c]; omega
  · rw [if_neg c]
    have c2 : i ≠ 0 := fun e => c (by rw [e]; rfl)
    have k := (Nat.log2_lt (n := i.natAbs) (k := 20) (by omega)).mpr (by have e : (2 : Nat) ^ 20 = 1048576 := by decide
                                                                         omega)
    omega
theorem weightAll_sm : ∀ {ns : List Int}, (∀ n ∈ ns, SmI n) → PyData.weightAll (ns.map .int) ≤ 21 * ns.length
  | [], _ => by rw [List.map_nil, PyData.weightAll]; exact Nat.zero_le _
  | n :: r, h => by
    have k1 := weight_sm (h n List.mem_cons_self)
    have k2 := weightAll_sm (ns := r) fun m hm => h m (List.mem_cons_of_mem _ hm)
    rw [List.map_cons, PyData.weightAll, List.length_cons]
    omega
theorem showAll_sm : ∀ {ns : List Int}, (∀ n ∈ ns, SmI n) → PyData.showableAll (ns.map .int) = true
  | [], _ => by rw [List.map_nil, PyData.showableAll]
  | n :: r, h => by
    have h1 := h n List.mem_cons_self
    rw [List.map_cons, PyData.showableAll, showAll_sm (ns := r) fun m hm => h m (List.mem_cons_of_mem _ hm), Bool.and_true, PyData.showable]
    refine decide_eq_true ?_
    by_cases c : n.natAbs = 0
    · rw [c]; decide
    · exact Nat.lt_of_lt_of_le ((Nat.log2_lt (n := n.natAbs) (k := 20) c).mpr (by have e : (2 : Nat) ^ 20 = 1048576 := by decide
                                                                                  omega)) (by decide)
theorem shortAll_sm {ns : List Int} (h : ∀ n ∈ ns, SmI n) : PyData.intsShortAll 13 (ns.map .int) = true :=
  PyData.intsShortAll_ints ns fun n hn => by
    have := h n hn
    have e : (10 : Nat) ^ 12 = 1000000000000 := by decide
    omega
theorem good_of {d : PyData} (c : d.canLay0 = true) (dp : d.depth ≤ 64) (w : d.weight ≤ 2 ^ 20) (s : d.showable = true) (i : d.intsShort 13 = true) : GoodD d := by
  refine ⟨s, PyData.hasDict_of_canLay d c, dp, PyData.shown_fits_of_layable0 (B := 13) (by decide) (by decide) ?_ i⟩
  show (d.canLay0 && decide (d.depth ≤ 64) && decide (d.weight ≤ 2 ^ 20)) = true
  rw [c, decide_eq_true dp, decide_eq_true w]
  rfl
/-- a tuple of ints -/
def tupD (ns : List Int) : PyData := .tuple (ns.map .int)
theorem depth_tup (ns : List Int) : (tupD ns).depth ≤ 2 := by
  have h := depthAll_ints ns
  unfold tupD
  rw [PyData.depth]
  omega
theorem good_tup {ns : List Int} (h : ∀ n ∈ ns, SmI n) (hl : ns.length ≤ 1000) : GoodD (tupD ns) := by
  have w := weightAll_sm h
  refine good_of (canLayAll_ints ns) (Nat.le_trans (depth_tup ns) (by decide)) ?_ ?_ ?_
  · unfold tupD
    rw [PyData.weight]
    have e : (2 : Nat) ^ 20 = 1048576 := by decide
    omega
  · unfold tupD
    rw [PyData.showable]
    exact showAll_sm h
  · unfold tupD
    rw [PyData.intsShort]
    exact shortAll_sm h
theorem goodAll {ts : List (List Int)} (h : ∀ ns ∈ ts, ns.length ≤ 3 ∧ ∀ n ∈ ns, SmI n) : PyData.weightAll (ts.map tupD) ≤ 64 * ts.length ∧ PyData.showableAll (ts.map tupD) = true ∧ PyData.intsShortAll 13 (ts.map tupD) = true := by
  induction ts with
  | nil => exact ⟨by rw [List.map_nil, PyData.weightAll]; exact Nat.zero_le _, by rw [List.map_nil, PyData.showableAll], by rw [List.map_nil, PyData.intsShortAll]⟩
  | cons ns ts ih =>
    obtain ⟨h1, h2⟩ := h ns List.mem_cons_self
    obtain ⟨i1, i2, i3⟩ := ih fun m hm => h m (List.mem_cons_of_mem _ hm)
    have w := weightAll_sm h2
    have g := good_tup h2 (by omega)
    refine ⟨?_, ?_, ?_⟩
    · have e : PyData.weight (tupD ns) = PyData.weightAll (ns.map .int) := by unfold tupD; rw [PyData.weight]
      rw [List.map_cons, PyData.weightAll, List.length_cons, e]
      omega
    · rw [List.map_cons, PyData.showableAll, g.show_, i2]; rfl
    · have e : PyData.intsShort 13 (tupD ns) = true := by unfold tupD; rw [PyData.intsShort]; exact shortAll_sm h2
      rw [List.map_cons, PyData.intsShortAll, e, i3]; rfl
theorem good_tups {ts : List (List Int)} (h : ∀ ns ∈ ts, ns.length ≤ 3 ∧ ∀ n ∈ ns, SmI n) (hl : ts.length ≤ 1000) : GoodD (.list (ts.map tupD)) := by
  obtain ⟨w, s, i⟩ := goodAll h
  refine good_of (canLayAll_of _ fun d hd => ?_) ?_ ?_ ?_ ?_
  · obtain ⟨ns, _, rfl⟩ := List.mem_map.mp hd
    exact canLayAll_ints ns
  · have k := depthAll_of (m := 2) (ts.map tupD) fun d hd => by
      obtain ⟨ns, _, rfl⟩ := List.mem_map.mp hd
      exact depth_tup ns
    rw [PyData.depth]
    omega
  · rw [PyData.weight]
    have e : (2 : Nat) ^ 20 = 1048576 := by decide
    omega
  · rw [PyData.showable]; exact s
  · rw [PyData.intsShort]; exact i
theorem repr_good {K : PySem.W.Frag} {H : Hp} {p : Addr} {d : PyData} {Q : VK} (h : Dp K H (.ref p) d) (g : GoodD d) (q : Q (.str d.shown) H) : rRepr K [.ref p] H Q :=
  ⟨p, d, rfl, h, g.show_, g.dict, g.deep, g.fits, q⟩
theorem dp_tup {K : PySem.W.Frag} {H : Hp} {p : Addr} {ns : List Int} (h : H p = some (.tup (ns.map V.int))) : Dp K H (.ref p) (tupD ns) := .tup (SqT.of h) (dpAll_ints ns)
theorem repr_pair {K : PySem.W.Frag} {H : Hp} {p : Addr} {x y : Int} {Q : VK} (h : H p = some (.tup [.int x, .int y])) (q : (SmI x ∧ SmI y) ∧ Q (.str (tupD [x, y]).shown) H) : rRepr K [.ref p] H Q :=
  repr_good (dp_tup (ns := [x, y]) h) (good_tup (fun n hn => by
    rcases List.mem_cons.mp hn with rfl | hn
    · exact q.1.1
    · rw [List.mem_singleton.mp hn]; exact q.1.2) (by show 2 ≤ 1000; omega)) q.2
theorem units66 {k : Nat} {A : Around} (r : Room k A) : A.units + 66 < cLine := by have := r.un; omega
end Ur

namespace Ur
open PySem L2 PySem.Spec PyProof.Rows
/-! ### things of any kind: whole or not, lists of such -/
/-- whether a thing is a whole number -/
def IsW (H : Hp) (v : V) (b : Bool) : Prop := (b = true ∧ ∃ i, v = .int i) ∨ (b = false ∧ Kind H v ∧ ∀ i, v ≠ .int i)
theorem IsW.int {H : Hp} {i : Int} : IsW H (.int i) true := .inl ⟨rfl, i, rfl⟩
theorem IsW.bl {H : Hp} {c : Bool} : IsW H (.bl c) false := .inr ⟨rfl, .bl, fun _ z => nomatch z⟩
theorem IsW.str {H : Hp} {x : Str} : IsW H (.str x) false := .inr ⟨rfl, .str, fun _ z => nomatch z⟩
theorem IsW.non {H : Hp} : IsW H .non false := .inr ⟨rfl, .non, fun _ z => nomatch z⟩
theorem IsW.lst {H : Hp} {p : Addr} {xs : List V} (e : H p = some (.lst xs)) : IsW H (.ref p) false := .inr ⟨rfl, .lst e, fun _ z => nomatch z⟩
theorem IsW.tup {H : Hp} {p : Addr} {xs : List V} (e : H p = some (.tup xs)) : IsW H (.ref p) false := .inr ⟨rfl, .tup e, fun _ z => nomatch z⟩
theorem IsW.dct {H : Hp} {p : Addr} {xs : List (Key × V)} (e : H p = some (.dK xs)) : IsW H (.ref p) false := .inr ⟨rfl, .dct e, fun _ z => nomatch z⟩
theorem IsW.same {H H' : Hp} {v : V} {b : Bool} (w : IsW H v b) (s : Same H H') : IsW H' v b := by
  rcases w with w | ⟨e, k, n⟩
  · exact .inl w
  · exact .inr ⟨e, k.same s, n⟩
theorem Kind.whole {H : Hp} {v : V} (k : Kind H v) : (∃ i, v = .int i) ∨ ((∀ i, v ≠ .int i) ∧ IsW H v false) := by
  by_cases h : ∃ i, v = .int i
  · exact .inl h
  · exact .inr ⟨fun i e => h ⟨i, e⟩, .inr ⟨rfl, k, fun i e => h ⟨i, e⟩⟩⟩
theorem Kind.some {H : Hp} {p : Addr} (k : Kind H (.ref p)) : ∃ o, H p = Option.some o := by
  rcases k with ⟨i, e⟩ | ⟨c, e⟩ | ⟨x, e⟩ | e | ⟨q, xs, e, h⟩ | ⟨q, xs, e, h⟩ | ⟨q, xs, e, h⟩
  · cases e
  · cases e
  · cases e
  · cases e
  · cases e; exact ⟨_, h⟩
  · cases e; exact ⟨_, h⟩
  · cases e; exact ⟨_, h⟩
/-- the kind of a thing, a list told apart -/
theorem Kind.isList {K : PySem.W.Frag} {H : Hp} {v : V} (k : Kind H v) : (∃ p xs, v = .ref p ∧ H p = Option.some (.lst xs)) ∨ ((∀ p xs, v = .ref p → H p ≠ Option.some (.lst xs)) ∧ ∃ t, TyX K H v (.type t) ∧ kitB t "list" = Option.some false) := by
  rcases k with ⟨i, rfl⟩ | ⟨c, rfl⟩ | ⟨x, rfl⟩ | rfl | ⟨q, xs, rfl, h⟩ | ⟨q, xs, rfl, h⟩ | ⟨q, xs, rfl, h⟩
  · exact .inr ⟨fun _ _ e => (nomatch e), _, tyx_int, kb_int_list⟩
  · exact .inr ⟨fun _ _ e => (nomatch e), _, tyx_bl, kb_bool_list⟩
  · exact .inr ⟨fun _ _ e => (nomatch e), _, tyx_str, kb_str_list⟩
  · exact .inr ⟨fun _ _ e => (nomatch e), _, tyx_non, kb_NoneType_list⟩
  · exact .inl ⟨q, xs, rfl, h⟩
  · exact .inr ⟨fun p ys e z => (by cases e; rw [h] at z; cases z), _, tyx_tup h, kb_tuple_list⟩
  · exact .inr ⟨fun p ys e z => (by cases e; rw [h] at z; cases z), _, tyx_dK h, kb_dict_list⟩
/-- .. a tuple told apart -/
theorem Kind.isTup {K : PySem.W.Frag} {H : Hp} {v : V} (k : Kind H v) : (∃ p xs, v = .ref p ∧ H p = Option.some (.tup xs)) ∨ ((∀ p xs, v = .ref p → H p ≠ Option.some (.tup xs)) ∧ ∃ t, TyX K H v (.type t) ∧ kitB t "tuple" = Option.some false) := by
  rcases k with ⟨i, rfl⟩ | ⟨c, rfl⟩ | ⟨x, rfl⟩ | rfl | ⟨q, xs, rfl, h⟩ | ⟨q, xs, rfl, h⟩ | ⟨q, xs, rfl, h⟩
  · exact .inr ⟨fun _ _ e => (nomatch e), _, tyx_int, kb_int_tuple⟩
  · exact .inr ⟨fun _ _ e => (nomatch e), _, tyx_bl, kb_bool_tuple⟩
  · exact .inr ⟨fun _ _ e => (nomatch e), _, tyx_str, kb_str_tuple⟩
  · exact .inr ⟨fun _ _ e => (nomatch e), _, tyx_non, kb_NoneType_tuple⟩
  · exact .inr ⟨fun p ys e z => (by cases e; rw [h] at z; cases z), _, tyx_lst h, kb_list_tuple⟩
  · exact .inl ⟨q, xs, rfl, h⟩
  · exact .inr ⟨fun p ys e z => (by cases e; rw [h] at z; cases z), _, tyx_dK h, kb_dict_tuple⟩
/-- all these addresses are taken -/
structure Old (L : Addr → Prop) (H : Hp) : Prop where
  has : ∀ b, L b → ∃ o, H b = some o
theorem Old.free {L : Addr → Prop} {H : Hp} {p : Addr} (o : Old L H) (n : H p = none) : ∀ b, L b → p ≠ b := fun b l e => by
  obtain ⟨u, h⟩ := o.has b l
  rw [← e, n] at h
  cases h
theorem Old.freeV {L : Addr → Prop} {H : Hp} {p : Addr} (o : Old L H) (n : H p = none) : ∀ b, L b → V.ref p ≠ .ref b := fun b l e => o.free n b l (by injection e)
theorem Old.same {L : Addr → Prop} {H H' : Hp} (o : Old L H) (s : Same H H') : Old L H' := ⟨fun b l => by
  obtain ⟨u, h⟩ := o.has b l
  exact ⟨u, s _ _ h⟩⟩
theorem Old.but {L : Addr → Prop} {a : Addr} {u : HO} {H H' : Hp} (o : Old L H) (b : But a H H') (h : H' a = some u) : Old L H' := ⟨fun c l => by
  by_cases e : c = a
  · rw [e]; exact ⟨u, h⟩
  · obtain ⟨w, k⟩ := o.has c l
    exact ⟨w, b _ _ e k⟩⟩
def Bar0 : Addr → Prop := fun _ => False
def Bar1 (a : Addr) : Addr → Prop := fun b => b = a
def Bar2 (a c : Addr) : Addr → Prop := fun b => b = a ∨ b = c
theorem Bar1.self {a : Addr} : Bar1 a a := rfl
theorem Bar1.ne {a p : Addr} (h : p ≠ a) : ∀ b, Bar1 a b → p ≠ b := fun b e z => h (z.trans e)
theorem Bar1.old {a : Addr} {o : HO} {H : Hp} (e : H a = some o) : Old (Bar1 a) H := ⟨fun b l => by cases l; exact ⟨o, e⟩⟩
theorem Bar2.l {a c : Addr} : Bar2 a c a := .inl rfl
theorem Bar2.r {a c : Addr} : Bar2 a c c := .inr rfl
theorem Bar2.ne {a c p : Addr} (h : p ≠ a) (k : p ≠ c) : ∀ b, Bar2 a c b → p ≠ b := fun b e z => e.elim (fun e => h (z.trans e)) fun e => k (z.trans e)
theorem Bar2.old {a c : Addr} {o u : HO} {H : Hp} (e : H a = some o) (f : H c = some u) : Old (Bar2 a c) H := ⟨fun b l => by
  rcases l with rfl | rfl
  · exact ⟨o, e⟩
  · exact ⟨u, f⟩⟩
theorem neV {L : Addr → Prop} {p : Addr} (n : ∀ b, L b → p ≠ b) : ∀ b, L b → V.ref p ≠ .ref b := fun b l e => n b l (by injection e)
/-- items of known kinds, none of them at L -/
structure Its (L : Addr → Prop) (H : Hp) (xs : List V) : Prop where
  all : ∀ x ∈ xs, Kind H x ∧ ∀ b, L b → x ≠ .ref b
theorem Its.nil {L : Addr → Prop} {H : Hp} : Its L H [] := ⟨fun _ h => nomatch h⟩
theorem Its.ints {L : Addr → Prop} {H : Hp} (ns : List Int) : Its L H (ns.map V.int) := ⟨fun x h => by
  obtain ⟨n, _, rfl⟩ := List.mem_map.mp h
  exact ⟨.int, fun _ _ z => nomatch z⟩⟩
theorem Its.sub {L : Addr → Prop} {H : Hp} {xs ys : List V} (t : Its L H xs) (f : ∀ y ∈ ys, y ∈ xs) : Its L H ys := ⟨fun y h => t.all y (f y h)⟩
theorem Its.app {L : Addr → Prop} {H : Hp} {xs ys : List V} (t : Its L H xs) (u : Its L H ys) : Its L H (xs ++ ys) := ⟨fun y h => by
  rcases List.mem_append.mp h with k | k
  · exact t.all y k
  · exact u.all y k⟩
theorem Its.one {L : Addr → Prop} {H : Hp} {x : V} (k : Kind H x) (n : ∀ b, L b → x ≠ .ref b) : Its L H [x] := ⟨fun y h => by rw [List.mem_singleton.mp h]; exact ⟨k, n⟩⟩
theorem Its.two {L : Addr → Prop} {H : Hp} {x y : V} (kx : Kind H x) (nx : ∀ b, L b → x ≠ .ref b) (ky : Kind H y) (ny : ∀ b, L b → y ≠ .ref b) : Its L H [x, y] := (Its.one kx nx).app (.one ky ny)
theorem Its.rep {L : Addr → Prop} {H : Hp} {xs : List V} (t : Its L H xs) (k : Nat) : Its L H (List.replicate k xs).flatten := ⟨fun y h => by
  obtain ⟨l, h1, h2⟩ := List.mem_flatten.mp h
  rw [List.eq_of_mem_replicate h1] at h2
  exact t.all y h2⟩
theorem Its.same {L : Addr → Prop} {H H' : Hp} {xs : List V} (t : Its L H xs) (s : Same H H') : Its L H' xs := ⟨fun x h => ⟨(t.all x h).1.same s, (t.all x h).2⟩⟩
theorem Its.but {L : Addr → Prop} {a : Addr} {H H' : Hp} {xs : List V} (t : Its L H xs) (l : L a) (b : But a H H') : Its L H' xs := ⟨fun x h => ⟨(t.all x h).1.but b ((t.all x h).2 a l), (t.all x h).2⟩⟩
theorem Its.less {L M : Addr → Prop} {H : Hp} {xs : List V} (t : Its L H xs) (f : ∀ b, M b → L b) : Its M H xs := ⟨fun x h => ⟨(t.all x h).1, fun b m => (t.all x h).2 b (f b m)⟩⟩
/-- a thing, a list's items of known kinds; none of this is at L -/
structure Th (L : Addr → Prop) (H : Hp) (v : V) : Prop where
  kind : Kind H v
  ne : ∀ b, L b → v ≠ .ref b
  items : ∀ p xs, v = .ref p → H p = some (.lst xs) → xs.length ≤ 2000 ∧ Its L H xs
theorem Th.same {L : Addr → Prop} {H H' : Hp} {v : V} (t : Th L H v) (s : Same H H') : Th L H' v := ⟨t.kind.same s, t.ne, fun p xs e h => by
  subst e
  obtain ⟨o, ho⟩ := t.kind.some
  have z := s _ _ ho
  rw [h] at z
  cases z
  obtain ⟨l, f⟩ := t.items p xs rfl ho
  exact ⟨l, f.same s⟩⟩
theorem Th.but {L : Addr → Prop} {a : Addr} {H H' : Hp} {v : V} (t : Th L H v) (la : L a) (b : But a H H') : Th L H' v := ⟨t.kind.but b (t.ne a la), t.ne, fun p xs e h => by
  subst e
  obtain ⟨o, ho⟩ := t.kind.some
  have z := b _ _ (fun z => t.ne a la (by rw [z])) ho
  rw [h] at z
  cases z
  obtain ⟨l, f⟩ := t.items p xs rfl ho
  exact ⟨l, f.but la b⟩⟩
theorem Th.less {L M : Addr → Prop} {H : Hp} {v : V} (t : Th L H v) (f : ∀ b, M b → L b) : Th M H v := ⟨t.kind, fun b m => t.ne b (f b m), fun p xs e h => ⟨(t.items p xs e h).1, (t.items p xs e h).2.less f⟩⟩
theorem Th.lst {L : Addr → Prop} {H : Hp} {p : Addr} {xs : List V} (e : H p = some (.lst xs)) (n : ∀ b, L b → p ≠ b) (l : xs.length ≤ 2000) (t : Its L H xs) : Th L H (.ref p) :=
  ⟨.lst e, neV n, fun q ys z h => by cases z; rw [e] at h; cases h; exact ⟨l, t⟩⟩
theorem Th.of {L : Addr → Prop} {H : Hp} {v : V} (k : Kind H v) (n : ∀ b, L b → v ≠ .ref b) (f : ∀ p xs, v = .ref p → H p ≠ some (.lst xs)) : Th L H v := ⟨k, n, fun p xs e h => (f p xs e h).elim⟩
theorem Th.int {L : Addr → Prop} {H : Hp} {i : Int} : Th L H (.int i) := .of .int (fun _ _ z => nomatch z) fun _ _ z => nomatch z
theorem Th.bl {L : Addr → Prop} {H : Hp} {c : Bool} : Th L H (.bl c) := .of .bl (fun _ _ z => nomatch z) fun _ _ z => nomatch z
theorem Th.str {L : Addr → Prop} {H : Hp} {x : Str} : Th L H (.str x) := .of .str (fun _ _ z => nomatch z) fun _ _ z => nomatch z
theorem Th.non {L : Addr → Prop} {H : Hp} : Th L H .non := .of .non (fun _ _ z => nomatch z) fun _ _ z => nomatch z
theorem Th.tup {L : Addr → Prop} {H : Hp} {p : Addr} {xs : List V} (e : H p = some (.tup xs)) (n : ∀ b, L b → p ≠ b) : Th L H (.ref p) := .of (.tup e) (neV n) fun q ys z h => by cases z; rw [e] at h; cases h
theorem Th.dct {L : Addr → Prop} {H : Hp} {p : Addr} {xs : List (Key × V)} (e : H p = some (.dK xs)) (n : ∀ b, L b → p ≠ b) : Th L H (.ref p) := .of (.dct e) (neV n) fun q ys z h => by cases z; rw [e] at h; cases h
/-! lists of values -/
theorem atI_get {xs : List V} {i : Int} (h0 : 0 ≤ i) (h1 : i < xs.length) : ∃ v, atI xs i = some v ∧ v ∈ xs ∧ xs[i.toNat]? = some v := by
  obtain ⟨k, rfl⟩ := Int.eq_ofNat_of_zero_le h0
  have hj : k < xs.length := by omega
  exact ⟨xs[k], atI_nat (List.getElem?_eq_getElem hj), List.getElem_mem hj, by rw [Int.toNat_natCast]; exact List.getElem?_eq_getElem hj⟩
theorem mem_cut {xs : List V} {lo hi : Option Int} {x : V} (h : x ∈ cutV xs lo hi) : x ∈ xs := by
  unfold cutV at h
  exact List.mem_of_mem_drop (List.mem_of_mem_take h)
/-- a cut of a list, its contents no longer looked at -/
theorem cut_is (xs : List V) (lo hi : Option Int) : ∃ ys, cutV xs lo hi = ys ∧ ys.length ≤ xs.length ∧ ∀ y ∈ ys, y ∈ xs := ⟨_, rfl, cutV_length _ _ _, fun _ h => mem_cut h⟩
theorem rep01 (b : Bool) (xs : List V) : ((List.replicate (if b = true then (1 : Int) else 0).toNat xs).flatten).length ≤ xs.length := by
  cases b <;> simp
theorem len_any {K : PySem.W.Frag} {H : Hp} {p : Addr} {xs : List V} {Q : VK} (h : SqL K H p xs) (q : Q (.int xs.length) H) : rLenI K [.ref p] H Q := ⟨p, _, rfl, Or.inl h, q⟩
end Ur
namespace Ur
open PySem L2
theorem nwA' {H : Hp} {x p : Addr} {o : HO} (h : H x = some o) (n : H p = none) : p ≠ x := fun e => by rw [e, h] at n; cases n
theorem ints_of : ∀ {xs : List V}, (∀ x ∈ xs, ∃ n : Int, x = .int n) → ∃ ns : List Int, xs = ns.map V.int
  | [], _ => ⟨[], rfl⟩
  | x :: xs, h => by
    obtain ⟨n, rfl⟩ := h x List.mem_cons_self
    obtain ⟨ns, e⟩ := ints_of fun y hy => h y (List.mem_cons_of_mem _ hy)
    exact ⟨n :: ns, by rw [e]; rfl⟩
theorem int_mem {ns : List Int} {n : Int} : V.int n ∈ ns.map V.int ↔ n ∈ ns := ⟨fun h => by
  obtain ⟨m, hm, e⟩ := List.mem_map.mp h
  cases e; exact hm, fun h => List.mem_map.mpr ⟨n, h, rfl⟩⟩
theorem take_snocV {xs : List V} {i : Nat} {x : V} (h : xs[i]? = some x) : xs.take (i + 1) = xs.take i ++ [x] := by
  rw [List.take_succ, h]; rfl
end Ur

namespace Ur
open PySem PySem.Spec PyProof.Rows L2
/-! ### == and != of lists of things of any kind: of unlike lengths, or with the very same items -/
def rEqL (K : PySem.W.Frag) (neg : Bool) : R2 := fun x y H Q => ∃ (a b : Addr) (xs ys : List V), x = .ref a ∧ y = .ref b ∧ SqL K H a xs ∧ SqL K H b ys ∧
  ((xs.length ≠ ys.length ∧ Q (.bl neg) H) ∨ (xs = ys ∧ (∀ v ∈ xs, flatV v = true ∨ ∃ p, v = .ref p) ∧ Q (.bl (!neg)) H))
theorem eqV_self : ∀ {v : V}, flatV v = true → eqV v v = true
  | .non, _ => rfl
  | .bl b, _ => by simp [eqV]
  | .int i, _ => by simp [eqV]
  | .str x, _ => by simp [eqV]
theorem eqAt_ref {A : Around} {s : Shared} {p : Addr} : SeqAt.EqAt A s (.ref p) (.ref p) true := fun prog w E Q h => by
  unfold eqBool
  refine wpAny_holding ?_
  rw [if_pos (by simp)]
  exact wpAny_pure (M := model prog w) (E := E) h
theorem items_same {A : Around} {s : Shared} {xs : List V} {us ws : List Value} (r1 : Vals xs us) (r2 : Vals xs ws) (f : ∀ v ∈ xs, flatV v = true ∨ ∃ p, v = .ref p) :
    ∀ j (h1 : j < us.toArray.size) (h2 : j < ws.toArray.size), SeqAt.EqAt A s us.toArray[j] ws.toArray[j] true := fun j h1 h2 => by
  have hx : j < xs.length := by rw [r1.length]; simpa using h1
  have e0 := List.getElem?_eq_getElem hx
  obtain ⟨u, e1, ru⟩ := r1.get e0
  obtain ⟨v, e2, rv⟩ := r2.get e0
  have g1 : us.toArray[j] = u := by
    have := (List.getElem?_eq_some_iff.mp e1).2
    simpa using this
  have g2 : ws.toArray[j] = v := by
    have := (List.getElem?_eq_some_iff.mp e2).2
    simpa using this
  rw [g1, g2]
  rcases f _ (List.getElem_mem hx) with k | ⟨p, k⟩
  · have z := eqAt_V (A := A) (s := s) ru rv k k
    rwa [eqV_self k] at z
  · rw [k] at ru rv
    cases (show u = Value.ref p from ru)
    cases (show v = Value.ref p from rv)
    exact eqAt_ref
section
variable {X : Cx} {K : PySem.W.Frag}
theorem op_eqL (hK : X.K = K) (hu : X.A.units + 64 < cLine) : OpR X (compareOp .Eq) (rEqL K false) := by
  subst hK
  intro pins s σ H x y v u Q I rx ry h
  obtain ⟨a, b, xs, ys, rfl, rfl, ha, hb, h⟩ := h
  cases (show v = Value.ref a from rx)
  cases (show u = Value.ref b from ry)
  obtain ⟨i1, r1, p1, _⟩ := I.list ha
  obtain ⟨i2, r2, p2, _⟩ := I.list hb
  have l1 := r1.length
  have l2 := r2.length
  rcases h with ⟨hn, q⟩ | ⟨rfl, f, q⟩
  · exact SeqAt.RcAt.lists_lengths p1.isList p2.isList (by simp; omega) (by omega) X.prog X.w _ _ ⟨.bl _, H, I, rfl, q⟩
  · have z := SeqAt.RcAt.lists (A := X.A) (e := fun _ => true) p1.isList p2.isList (by simp; omega) (by omega) (items_same r1 r2 f) X.prog X.w
    have all : (List.range i1.toArray.size).all (fun _ => true) = true := List.all_eq_true.mpr fun _ _ => rfl
    rw [all] at z
    exact z _ _ ⟨.bl _, H, I, rfl, q⟩
theorem op_neL (hK : X.K = K) (hu : X.A.units + 64 < cLine) : OpR X (compareOp .NotEq) (rEqL K true) := by
  subst hK
  intro pins s σ H x y v u Q I rx ry h
  obtain ⟨a, b, xs, ys, rfl, rfl, ha, hb, h⟩ := h
  cases (show v = Value.ref a from rx)
  cases (show u = Value.ref b from ry)
  obtain ⟨i1, r1, p1, _⟩ := I.list ha
  obtain ⟨i2, r2, p2, _⟩ := I.list hb
  have l1 := r1.length
  have l2 := r2.length
  rcases h with ⟨hn, q⟩ | ⟨rfl, f, q⟩
  · exact SeqAt.RcNeAt.lists_lengths p1.isList p2.isList (by simp; omega) (by omega) X.prog X.w _ _ ⟨.bl _, H, I, rfl, q⟩
  · have z := SeqAt.RcNeAt.lists (A := X.A) (e := fun _ => true) p1.isList p2.isList (by simp; omega) (by omega) (items_same r1 r2 f) X.prog X.w
    have all : (List.range i1.toArray.size).all (fun _ => true) = true := List.all_eq_true.mpr fun _ _ => rfl
    rw [all] at z
    exact z _ _ ⟨.bl _, H, I, rfl, q⟩
end
/-- against a list without items -/
theorem rEqL_nil {K : PySem.W.Frag} {H : Hp} {a b : Addr} {xs : List V} {Q : VK} (h1 : SqL K H a xs) (h2 : SqL K H b []) (q : Q (.bl xs.isEmpty) H) : rEqL K false (.ref a) (.ref b) H Q := by
  cases xs with
  | nil => exact ⟨a, b, [], [], rfl, rfl, h1, h2, .inr ⟨rfl, (fun _ h => nomatch h), q⟩⟩
  | cons x xs => exact ⟨a, b, _, [], rfl, rfl, h1, h2, .inl ⟨by simp, q⟩⟩
theorem rNeL_nil {K : PySem.W.Frag} {H : Hp} {a b : Addr} {xs : List V} {Q : VK} (h1 : SqL K H a xs) (h2 : SqL K H b []) (q : Q (.bl (!xs.isEmpty)) H) : rEqL K true (.ref a) (.ref b) H Q := by
  cases xs with
  | nil => exact ⟨a, b, [], [], rfl, rfl, h1, h2, .inr ⟨rfl, (fun _ h => nomatch h), q⟩⟩
  | cons x xs => exact ⟨a, b, _, [], rfl, rfl, h1, h2, .inl ⟨by simp, q⟩⟩
theorem Kind.flat {H : Hp} {v : V} (k : Kind H v) : flatV v = true ∨ ∃ p, v = .ref p := by
  rcases k with ⟨i, rfl⟩ | ⟨b, rfl⟩ | ⟨x, rfl⟩ | rfl | ⟨p, xs, rfl, _⟩ | ⟨p, xs, rfl, _⟩ | ⟨p, xs, rfl, _⟩
  · exact .inl rfl
  · exact .inl rfl
  · exact .inl rfl
  · exact .inl rfl
  · exact .inr ⟨p, rfl⟩
  · exact .inr ⟨p, rfl⟩
  · exact .inr ⟨p, rfl⟩
theorem rEqL_same {K : PySem.W.Frag} {H : Hp} {neg : Bool} {a b : Addr} {xs : List V} {Q : VK} (h1 : SqL K H a xs) (h2 : SqL K H b xs) (f : ∀ x ∈ xs, Kind H x) (q : Q (.bl (!neg)) H) : rEqL K neg (.ref a) (.ref b) H Q :=
  ⟨a, b, xs, xs, rfl, rfl, h1, h2, .inr ⟨rfl, fun v hv => (f v hv).flat, q⟩⟩
section
variable {K : PySem.W.Frag} {a : Addr} {xs : List V} {σ : L2.St} {H1 : Hp} {Dl : Addr} {te : TE} {tt : TT} {vs : List Nat} {j : Nat} {Qd : Hp → Prop}
/-- [e for x in a list of things if t] -/
theorem lc_valsIf (t : V → Bool) (f : V → V) (hn : xs.length ≤ 1000000) (ha : SqL K H1 a xs) (hD : H1 Dl = none) (hw : ∀ x, wipe ((wipe σ vs).set j (some x)) vs = wipe σ vs)
    (ht : ∀ (x : V) H', x ∈ xs → Same H1 H' → ∀ Q' : Bool → Hp → Prop, (∀ H4, Same H' H4 → Q' (t x) H4) → tt ((wipe σ vs).set j (some x)) H' Q')
    (he : ∀ (x : V) H', x ∈ xs → t x = true → Same H1 H' → ∀ Q' : VK, (∀ H4, Same H' H4 → Q' (f x) H4) → te ((wipe σ vs).set j (some x)) H' Q')
    (hd : ∀ H', Same H1 H' → H' Dl = some (.lst ((xs.filter t).map f)) → Qd H') :
    ∃ W : Nat → Nat → Hp → Prop, (∃ m, W 0 m (upd H1 Dl (.lst []))) ∧ ∀ i m H, W i m H →
      ((Itl K a).stop i H ∧ Qd H) ∨ ((Itl K a).go i H ∧ ∃ Nx : Hp → Prop, (∀ H', Nx H' → ∃ m', m' < m ∧ W (i + 1) m' H') ∧ ∀ x H', (Itl K a).yld i H x H' → gName j x (wipe σ vs) H' fun σ2 H2 => wipe σ2 vs = wipe σ vs ∧ tt σ2 H2 fun b H3 =>
        if b = true then te σ2 H3 fun y H4 => ∃ acc, H4 Dl = some (.lst acc) ∧ acc.length < sizeLine ∧ Nx (upd H4 Dl (.lst (acc ++ [y]))) else Nx H3) := by
  refine lc_list (K := K) (a := a) (xs := xs) (fun i H' => Same H1 H' ∧ H' Dl = some (.lst (((xs.take i).filter t).map f))) ⟨same_new hD, upd_same⟩ (fun i H' _ p => p.1.seq ha) (fun i x H' hx p => ?_) (fun H' p => ?_)
  · have hi := (List.getElem?_eq_some_iff.mp hx).1
    have hm := List.mem_of_getElem? hx
    refine ⟨hw _, ?_⟩
    refine ht x H' hm p.1 _ fun H3 s3 => ?_
    have e1 := take_snocV hx
    cases hb : t x with
    | true =>
      refine (if_pos rfl).mpr ?_
      refine he x H3 hm hb (p.1.trans s3) _ fun H4 s => ⟨_, s _ _ (s3 _ _ p.2), szl ?_, same_upd' hD ((p.1.trans s3).trans s), ?_⟩
      · have := List.length_filter_le t (xs.take i)
        rw [List.length_take] at this
        rw [List.length_map]; omega
      rw [upd_same, e1, List.filter_append, List.map_append, List.filter_cons, if_pos hb]
      rfl
    | false =>
      refine (if_neg Bool.false_ne_true).mpr ⟨p.1.trans s3, ?_⟩
      rw [e1, List.filter_append, List.map_append, List.filter_cons, if_neg (by rw [hb]; exact Bool.false_ne_true)]
      simpa using s3 _ _ p.2
  · rw [List.take_length] at p
    exact hd H' p.1 p.2
/-- [e for x in a list of things] -/
theorem lc_vals (f : V → V) (hn : xs.length ≤ 1000000) (ha : SqL K H1 a xs) (hD : H1 Dl = none) (hw : ∀ x, wipe ((wipe σ vs).set j (some x)) vs = wipe σ vs)
    (he : ∀ (x : V) H', x ∈ xs → Same H1 H' → ∀ Q' : VK, (∀ H4, Same H' H4 → Q' (f x) H4) → te ((wipe σ vs).set j (some x)) H' Q')
    (hd : ∀ H', Same H1 H' → H' Dl = some (.lst (xs.map f)) → Qd H') :
    ∃ W : Nat → Nat → Hp → Prop, (∃ m, W 0 m (upd H1 Dl (.lst []))) ∧ ∀ i m H, W i m H →
      ((Itl K a).stop i H ∧ Qd H) ∨ ((Itl K a).go i H ∧ ∃ Nx : Hp → Prop, (∀ H', Nx H' → ∃ m', m' < m ∧ W (i + 1) m' H') ∧ ∀ x H', (Itl K a).yld i H x H' → gName j x (wipe σ vs) H' fun σ2 H2 => wipe σ2 vs = wipe σ vs ∧ tYes σ2 H2 fun b H3 =>
        if b = true then te σ2 H3 fun y H4 => ∃ acc, H4 Dl = some (.lst acc) ∧ acc.length < sizeLine ∧ Nx (upd H4 Dl (.lst (acc ++ [y]))) else Nx H3) := by
  refine lc_list (K := K) (a := a) (xs := xs) (fun i H' => Same H1 H' ∧ H' Dl = some (.lst ((xs.take i).map f))) ⟨same_new hD, upd_same⟩ (fun i H' _ p => p.1.seq ha) (fun i x H' hx p => ?_) (fun H' p => ?_)
  · have hi := (List.getElem?_eq_some_iff.mp hx).1
    have hm := List.mem_of_getElem? hx
    refine ⟨hw _, tyes_ok ?_⟩
    refine he x H' hm p.1 _ fun H4 s => ⟨_, s _ _ p.2, szl ?_, same_upd' hD (p.1.trans s), ?_⟩
    · rw [List.length_map, List.length_take]; omega
    rw [upd_same, take_snocV hx, List.map_append]
    rfl
  · rw [List.take_length] at p
    exact hd H' p.1 p.2
end
/-- whether a value is a whole number -/
def isI : V → Bool
  | .int _ => true
  | _ => false
theorem isI_int {v : V} (h : isI v = true) : ∃ i, v = .int i := by
  cases v <;> first | exact ⟨_, rfl⟩ | cases h
theorem Kind.isW {H : Hp} {v : V} (k : Kind H v) : IsW H v (isI v) := by
  rcases k.whole with ⟨i, rfl⟩ | ⟨hn, w⟩
  · exact .int
  · have : isI v = false := by
      cases h : isI v with
      | false => rfl
      | true => obtain ⟨i, e⟩ := isI_int h; exact (hn i e).elim
    rw [this]; exact w
end Ur

namespace Ur
open PySem L2
/-! ### widths go together -/
theorem wunN_map {f : Int → Int} {ns : List Int} (h : InjOn f ns) (a b : Nat) : wunN (ns.map f) a b = wunN ns a b := by
  unfold wunN
  rw [← List.map_drop, ← List.map_take]
  exact ulen_map fun x hx y hy e => h x (List.mem_of_mem_drop (List.mem_of_mem_take hx)) y (List.mem_of_mem_drop (List.mem_of_mem_take hy)) e
theorem ofW_map {f : Int → Int} {ns : List Int} (h : InjOn f ns) (w : Nat) : ofW (ns.map f) w = ofW ns w := by
  unfold ofW
  rw [List.length_map]
  exact List.map_congr_left fun k _ => by rw [wunN_map h]
theorem sumsW_map {f : Int → Int} {ns : List Int} (h : InjOn f ns) : sumsW (ns.map f) = sumsW ns := by
  unfold sumsW
  rw [List.length_map]
  exact List.map_congr_left fun k _ => by rw [ofW_map h]
theorem wunN_revW {ns : List Int} {p q : Nat} (h : p ≤ q) (hq : q ≤ ns.length) : wunN ns.reverse p q = wunN ns (ns.length - q) (ns.length - p) := by
  refine ulen_congr fun x => ?_
  rw [mem_win, mem_win]
  constructor
  · rintro ⟨j, h1, h2, e⟩
    have hj : j < ns.length := by omega
    rw [List.getElem?_reverse hj] at e
    exact ⟨ns.length - 1 - j, by omega, by omega, e⟩
  · rintro ⟨j, h1, h2, e⟩
    have hj := (List.getElem?_eq_some_iff.mp e).1
    refine ⟨ns.length - 1 - j, by omega, by omega, ?_⟩
    rw [List.getElem?_reverse (by omega), show ns.length - 1 - (ns.length - 1 - j) = j by omega]
    exact e
theorem ofW_rev {ns : List Int} {w : Nat} (hw : w ≤ ns.length) : ofW ns.reverse w = (ofW ns w).reverse := by
  refine List.ext_getElem? fun k => ?_
  by_cases hk : k < ns.length + 1 - w
  · rw [ofW_get (by rw [List.length_reverse]; omega), List.getElem?_reverse (by rw [ofW_len]; omega), ofW_len, ofW_get (by omega), wunN_revW (by omega) (by omega)]
    rw [show ns.length - (k + w) = ns.length + 1 - w - 1 - k by omega, show ns.length - k = ns.length + 1 - w - 1 - k + w by omega]
  · rw [List.getElem?_eq_none (by rw [ofW_len, List.length_reverse]; omega), List.getElem?_eq_none (by rw [List.length_reverse, ofW_len]; omega)]
theorem sum_reverse (xs : List Int) : xs.reverse.sum = xs.sum := by
  induction xs with
  | nil => rfl
  | cons x xs ih => rw [List.reverse_cons, sum_snoc, ih, List.sum_cons]; omega
theorem sumsW_rev (ns : List Int) : sumsW ns.reverse = sumsW ns := by
  unfold sumsW
  rw [List.length_reverse]
  exact List.map_congr_left fun k hk => by rw [ofW_rev (by have := List.mem_range.mp hk; omega), sum_reverse]
/-- how far back each number stood last, times how many ends there are -/
def backs (ns : List Int) (i : Nat) : Int := sumTo (fun p => ((p : Int) - lp ns p) * ((ns.length : Int) - p)) i
theorem sumsW_sum (ns : List Int) : (sumsW ns).sum = backs ns ns.length := by
  unfold backs
  rw [← her_all]
  unfold sumsW
  rw [sum_range]
  have e1 : sumTo (fun w => (ofW ns w).sum) (ns.length + 1) = sumTo (fun w => sumTo (fun f => if f < ns.length + 1 - w then (wunN ns f (f + w) : Int) else 0) (ns.length + 1)) (ns.length + 1) := by
    refine sumTo_congr fun w hw => ?_
    unfold ofW
    rw [sum_range, sumTo_cut _ (show ns.length + 1 - w ≤ ns.length + 1 by omega)]
  rw [e1, sumTo_swap]
  refine sumTo_congr fun f hf => ?_
  rw [← her_wins (by omega), sumTo_cut _ (show ns.length + 1 - f ≤ ns.length + 1 by omega)]
  refine sumTo_congr fun w hw => ?_
  by_cases h : f < ns.length + 1 - w
  · rw [if_pos h, if_pos (by omega)]
  · rw [if_neg h, if_neg (by omega)]
theorem sumsW_get {ns : List Int} {w : Nat} (h : w ≤ ns.length) : (sumsW ns).getD w 0 = (ofW ns w).sum := by
  refine getD_of ?_
  unfold sumsW
  rw [List.getElem?_map, List.getElem?_range (by omega)]
  rfl
/-- one further on: at most one more or less -/
theorem ofW_step {ns : List Int} {w k : Nat} (h : k + 1 + w ≤ ns.length) : -1 ≤ (ofW ns w).getD (k + 1) 0 - (ofW ns w).getD k 0 ∧ (ofW ns w).getD (k + 1) 0 - (ofW ns w).getD k 0 ≤ 1 := by
  rw [ofW_getD h, ofW_getD (by omega), wunN_slide (by omega)]
  (repeat' split) <;> omega
/-- one wider: as many or one more -/
theorem ofW_wide {ns : List Int} {w f : Nat} (h : f + (w + 1) ≤ ns.length) : (0 ≤ (ofW ns (w + 1)).getD f 0 - (ofW ns w).getD f 0 ∧ (ofW ns (w + 1)).getD f 0 - (ofW ns w).getD f 0 ≤ 1) ∧ 0 ≤ (ofW ns (w + 1)).getD f 0 - (ofW ns w).getD (f + 1) 0 ∧ (ofW ns (w + 1)).getD f 0 - (ofW ns w).getD (f + 1) 0 ≤ 1 := by
  rw [ofW_getD h, ofW_getD (by omega), ofW_getD (by omega)]
  have a := wunN_step (ns := ns) (f := f) (b := f + w) (by omega) (by omega)
  have b := wunN_stepD (ns := ns) (f := f) (b := f + w + 1) (by omega) (by omega)
  rw [show f + (w + 1) = f + w + 1 by omega, show f + 1 + w = f + w + 1 by omega]
  omega
theorem mem_ofW {ns : List Int} {w : Nat} {m : Int} (h : m ∈ ofW ns w) : ∃ f, f < ns.length + 1 - w ∧ (ofW ns w).getD f 0 = m := by
  obtain ⟨f, hf⟩ := List.getElem?_of_mem h
  exact ⟨f, by have := (List.getElem?_eq_some_iff.mp hf).1; rwa [ofW_len] at this, getD_of hf⟩
theorem getD_ofW {ns : List Int} {w f : Nat} (h : f < ns.length + 1 - w) : (ofW ns w).getD f 0 ∈ ofW ns w := getD_mem (by rw [ofW_len]; exact h)
/-- the most of wider ones is no less -/
theorem most_wide {ns : List Int} {w : Nat} {m m' : Int} (h : w + 1 ≤ ns.length) (h1 : m ∈ ofW ns w) (h2 : ∀ y ∈ ofW ns (w + 1), y ≤ m') : m ≤ m' := by
  obtain ⟨f, hf, e⟩ := mem_ofW h1
  by_cases c : f + (w + 1) ≤ ns.length
  · have k := ofW_wide c
    have := h2 _ (getD_ofW (ns := ns) (w := w + 1) (f := f) (by omega))
    omega
  · have k := ofW_wide (ns := ns) (w := w) (f := f - 1) (by omega)
    rw [show f - 1 + 1 = f by omega] at k
    have := h2 _ (getD_ofW (ns := ns) (w := w + 1) (f := f - 1) (by omega))
    omega
theorem least_wide {ns : List Int} {w : Nat} {l l' : Int} (h : w + 1 ≤ ns.length) (h1 : l' ∈ ofW ns (w + 1)) (h2 : ∀ y ∈ ofW ns w, l ≤ y) : l ≤ l' := by
  obtain ⟨f, hf, e⟩ := mem_ofW h1
  have k := ofW_wide (ns := ns) (w := w) (f := f) (by omega)
  have := h2 _ (getD_ofW (ns := ns) (w := w) (f := f) (by omega))
  omega
theorem idxD {ns : List Int} {x : Int} (h : x ∈ ns) : ns.getD (ns.idxOf x) 0 = x := getD_of (idx_get h)
end Ur

namespace Ur
open PySem L2
/-! ### lists of pairs of ints -/
/-- objects at ls, the k-th of them O k -/
structure ObjsF (H : Hp) (ls : List Addr) (n : Nat) (O : Nat → HO) : Prop where
  len : ls.length = n
  row : ∀ k p, ls[k]? = some p → H p = some (O k)
theorem ObjsF.same {H H' : Hp} {ls : List Addr} {n : Nat} {O : Nat → HO} (r : ObjsF H ls n O) (s : Same H H') : ObjsF H' ls n O := ⟨r.len, fun k p e => s _ _ (r.row k p e)⟩
theorem ObjsF.but {a : Addr} {H H' : Hp} {ls : List Addr} {n : Nat} {O : Nat → HO} (r : ObjsF H ls n O) (b : But a H H') (no : ∀ p ∈ ls, p ≠ a) : ObjsF H' ls n O := ⟨r.len, fun k p e => b _ _ (no p (List.mem_of_getElem? e)) (r.row k p e)⟩
theorem ObjsF.is {H : Hp} {ls : List Addr} {n : Nat} {O : Nat → HO} (r : ObjsF H ls n O) {p : Addr} (hp : p ∈ ls) : ∃ k, k < n ∧ H p = some (O k) := by
  obtain ⟨k, hk⟩ := List.getElem?_of_mem hp
  exact ⟨k, by have := (List.getElem?_eq_some_iff.mp hk).1; have := r.len; omega, r.row k p hk⟩
theorem ObjsF.offNew {H : Hp} {x : Addr} {ls : List Addr} {n : Nat} {O : Nat → HO} (r : ObjsF H ls n O) (e : H x = none) : Off ls x := ⟨fun p hp z => by
  obtain ⟨k, _, em⟩ := r.is hp
  rw [z, e] at em
  cases em⟩
/-- .. of another kind than what lies at x -/
theorem ObjsF.offKind {H : Hp} {x : Addr} {o : HO} {ls : List Addr} {n : Nat} {O : Nat → HO} (r : ObjsF H ls n O) (e : H x = some o) (h : ∀ k, O k ≠ o) : Off ls x := ⟨fun p hp z => by
  obtain ⟨k, _, em⟩ := r.is hp
  rw [z, e] at em
  exact h k (Option.some.inj em).symm⟩
theorem ObjsF.upd {H : Hp} {x : Addr} {o : HO} {ls : List Addr} {n : Nat} {O : Nat → HO} (r : ObjsF H ls n O) (f : Off ls x) : ObjsF (upd H x o) ls n O := ⟨r.len, fun k p e => by
  rw [upd_ne (f.out p (List.mem_of_getElem? e))]
  exact r.row k p e⟩
/-- a pair -/
def pr (q : Int × Int) : HO := .tup [.int q.1, .int q.2]
abbrev PairsF (H : Hp) (ls : List Addr) (ps : List (Int × Int)) : Prop := ObjsF H ls ps.length (fun k => pr (ps.getD k (0, 0)))
theorem PairsF.nil {H : Hp} : PairsF H [] [] := ⟨rfl, fun k p h => nomatch h⟩
theorem PairsF.snoc {H : Hp} {ls : List Addr} {ps : List (Int × Int)} {p : Addr} {x y : Int} (r : PairsF H ls ps) (e : H p = some (.tup [.int x, .int y])) : PairsF H (ls ++ [p]) (ps ++ [(x, y)]) := by
  have hl := r.len
  refine ⟨by rw [List.length_append, List.length_append, hl]; rfl, fun k q h => ?_⟩
  by_cases hk : k < ls.length
  · rw [List.getElem?_append_left hk] at h
    have h2 := r.row k q h
    have h3 : (ps ++ [(x, y)]).getD k (0, 0) = ps.getD k (0, 0) := by
      rw [List.getD_eq_getElem?_getD, List.getD_eq_getElem?_getD, List.getElem?_append_left (by omega)]
    show H q = some (pr ((ps ++ [(x, y)]).getD k (0, 0)))
    rw [h3]
    exact h2
  · have h2 := (List.getElem?_eq_some_iff.mp h).1
    rw [List.length_append] at h2
    have h3 : [p].length = 1 := rfl
    have hk2 : k = ls.length := by omega
    subst hk2
    rw [List.getElem?_append_right (Nat.le_refl _), Nat.sub_self] at h
    cases h
    have h4 : (ps ++ [(x, y)]).getD ls.length (0, 0) = (x, y) := by
      rw [List.getD_eq_getElem?_getD, List.getElem?_append_right (by omega), hl, Nat.sub_self]
      rfl
    show H p = some (pr ((ps ++ [(x, y)]).getD ls.length (0, 0)))
    rw [h4]
    exact e
theorem PairsF.get {H : Hp} {ls : List Addr} {ps : List (Int × Int)} {k : Nat} {p : Addr} (r : PairsF H ls ps) (h : ls[k]? = some p) : k < ps.length ∧ H p = some (.tup [.int (ps.getD k (0, 0)).1, .int (ps.getD k (0, 0)).2]) :=
  ⟨by have := (List.getElem?_eq_some_iff.mp h).1; have := r.len; omega, r.row k p h⟩
theorem PairsF.offL {H : Hp} {x : Addr} {xs : List V} {ls : List Addr} {ps : List (Int × Int)} (r : PairsF H ls ps) (e : H x = some (.lst xs)) : Off ls x := ObjsF.offKind r e fun k z => nomatch z
/-- the data of such a list -/
def pairsD (ps : List (Int × Int)) : List PyData := ps.map fun q => PyData.tuple [.int q.1, .int q.2]
theorem dp_pairs {K : PySem.W.Frag} {H : Hp} {a : Addr} {ls : List Addr} {ps : List (Int × Int)} (h : SqL K H a (ls.map V.ref)) (r : PairsF H ls ps) : Dp K H (.ref a) (.list (pairsD ps)) := by
  refine .lst h (dpAll_of _ _ (by rw [pairsD, List.length_map, List.length_map, r.len]) fun k v d h1 h2 => ?_)
  rw [List.getElem?_map] at h1
  obtain ⟨p, hp, rfl⟩ := Option.map_eq_some_iff.mp h1
  obtain ⟨hk, e⟩ := r.get hp
  rw [pairsD, List.getElem?_map, List.getElem?_eq_getElem hk] at h2
  cases h2
  have e2 : ps.getD k (0, 0) = ps[k] := by rw [List.getD_eq_getElem?_getD, List.getElem?_eq_getElem hk]; rfl
  rw [e2] at e
  exact .tup (SqT.of e) (.cons (.int _) (.cons (.int _) .nil))
theorem shaped_pairs (ps : List (Int × Int)) : SeqAt.shaped (.list (pairsD ps)) = true := by
  refine shaped_of (canLayAll_of _ fun d h => ?_) ?_
  · obtain ⟨q, _, rfl⟩ := List.mem_map.mp h
    rfl
  · have h := depthAll_of (m := 2) (pairsD ps) fun d h => by
      obtain ⟨q, _, rfl⟩ := List.mem_map.mp h
      rw [PyData.depth]
      have := depthAll_of (m := 1) [PyData.int q.1, .int q.2] fun d h => by
        rcases List.mem_cons.mp h with rfl | h
        · simp [PyData.depth]
        · rw [List.mem_singleton.mp h]; simp [PyData.depth]
      omega
    rw [PyData.depth]
    omega
theorem eqv_pairs (ps : List (Int × Int)) : PyData.eqv (.list (pairsD ps)) (.list (pairsD ps)) = true := by
  show PyData.eqvAll _ _ = true
  refine eqvAll_refl _ fun d h => ?_
  obtain ⟨q, _, rfl⟩ := List.mem_map.mp h
  show PyData.eqvAll _ _ = true
  refine eqvAll_refl _ fun d h => ?_
  rcases List.mem_cons.mp h with rfl | h
  · show (q.1 == q.1) = true
    exact beq_self_eq_true _
  · rw [List.mem_singleton.mp h]
    show (q.2 == q.2) = true
    exact beq_self_eq_true _
theorem rEq_pairs {K : PySem.W.Frag} {H : Hp} {a b : Addr} {ls ms : List Addr} {ps : List (Int × Int)} {Q : VK} (h1 : SqL K H a (ls.map V.ref)) (h2 : SqL K H b (ms.map V.ref)) (r1 : PairsF H ls ps) (r2 : PairsF H ms ps) (q : Q (.bl true) H) : rEqD K (.ref a) (.ref b) H Q :=
  ⟨_, _, dp_pairs h1 r1, dp_pairs h2 r2, shaped_pairs ps, shaped_pairs ps, by rw [eqv_pairs]; exact q⟩
theorem rNe_pairs {K : PySem.W.Frag} {H : Hp} {a b : Addr} {ls ms : List Addr} {ps : List (Int × Int)} {Q : VK} (h1 : SqL K H a (ls.map V.ref)) (h2 : SqL K H b (ms.map V.ref)) (r1 : PairsF H ls ps) (r2 : PairsF H ms ps) (q : Q (.bl false) H) : rNeD K (.ref a) (.ref b) H Q :=
  ⟨_, _, dp_pairs h1 r1, dp_pairs h2 r2, shaped_pairs ps, shaped_pairs ps, by rw [eqv_pairs]; exact q⟩
/-! ### xs[:-1] -/
theorem cut_m1 (xs : List V) : cutV xs none (some (-1)) = xs.dropLast := by
  unfold cutV
  rw [HT.sIx_none]
  have e : HT.sIx xs.length xs.length (some (-1)) = xs.length - 1 := by
    show (if (-1 : Int) < 0 then ((-1 : Int) + (xs.length : Int)).toNat else min (-1 : Int).toNat xs.length) = xs.length - 1
    rw [if_pos (by decide)]
    omega
  rw [e, List.drop_zero, Nat.sub_zero, List.dropLast_eq_take]
end Ur

namespace Ur
open PySem L2
/-! ### how often each number stands in a window -/
theorem putK_keys (kvs : List (Key × V)) (k : Key) (v : V) (h : (kvs.map (·.1)).Nodup) : ((putK kvs k v).map (·.1)).Nodup := by
  unfold putK
  split
  · rw [List.map_map]
    have e : (kvs.map ((·.1) ∘ fun kv : Key × V => if kv.1 = k then (kv.1, v) else kv)) = kvs.map (·.1) := List.map_congr_left fun kv _ => by
      show (if kv.1 = k then (kv.1, v) else kv).1 = kv.1
      split <;> rfl
    rw [e]; exact h
  · rename_i hn
    rw [List.map_append, List.nodup_append]
    refine ⟨h, List.nodup_cons.mpr ⟨List.not_mem_nil, List.nodup_nil⟩, fun x hx y hy e => hn ?_⟩
    obtain ⟨kv, hkv, rfl⟩ := List.mem_map.mp hx
    have e2 : y = k := List.mem_singleton.mp hy
    exact List.any_eq_true.mpr ⟨kv, hkv, decide_eq_true (e.trans e2)⟩
theorem dropK_keys (kvs : List (Key × V)) (k : Key) (h : (kvs.map (·.1)).Nodup) : ((dropK kvs k).map (·.1)).Nodup := by
  unfold dropK
  exact List.Nodup.sublist (List.Sublist.map _ List.filter_sublist) h
theorem valV_dropK (k j : Key) : ∀ kvs : List (Key × V), valV (dropK kvs k) j = if j = k then none else valV kvs j
  | [] => by split <;> rfl
  | p :: r => by
    have ih := valV_dropK k j r
    by_cases e : p.1 = k
    · rw [dropK_pos e, ih]
      by_cases q : j = k
      · rw [if_pos q, if_pos q]
      · rw [if_neg q, if_neg q, valV_neg (fun z => q (z.symm.trans e))]
    · rw [dropK_neg e]
      by_cases q : p.1 = j
      · rw [valV_pos q, valV_pos q, if_neg (fun z => e (q.trans z))]
      · rw [valV_neg q, valV_neg q, ih]
theorem dropK_len (k : Key) : ∀ kvs : List (Key × V), (kvs.map (·.1)).Nodup → (valV kvs k).isSome = true → (dropK kvs k).length + 1 = kvs.length
  | [], _, h => by cases h
  | p :: r, nd, h => by
    rw [List.map_cons, List.nodup_cons] at nd
    by_cases e : p.1 = k
    · rw [dropK_pos e]
      have e2 : dropK r k = r := by
        unfold dropK
        refine List.filter_eq_self.mpr fun q hq => decide_eq_true fun z => nd.1 ?_
        exact List.mem_map.mpr ⟨q, hq, z.trans e.symm⟩
      rw [e2]; rfl
    · rw [dropK_neg e, List.length_cons, List.length_cons]
      rw [valV_neg e] at h
      have := dropK_len k r nd.2 h
      omega
structure Cnt (kvs : List (Key × V)) (W : List Int) : Prop where
  val : ∀ z : Int, valV kvs (Sum.inl z) = if z ∈ W then some (.int (W.count z : Nat)) else none
  len : kvs.length = ulen W
  nd : (kvs.map (·.1)).Nodup
theorem Cnt.nil : Cnt [] [] := ⟨fun z => by rw [if_neg (fun h => nomatch h)]; rfl, rfl, List.nodup_nil⟩
theorem Cnt.has {kvs : List (Key × V)} {W : List Int} (c : Cnt kvs W) (z : Int) : (valV kvs (Sum.inl z)).isSome = decide (z ∈ W) := by
  rw [c.val]
  by_cases h : z ∈ W
  · rw [if_pos h, decide_eq_true h]; rfl
  · rw [if_neg h, decide_eq_false h]; rfl
theorem Cnt.get0 {kvs : List (Key × V)} {W : List Int} (c : Cnt kvs W) (z : Int) : (valV kvs (Sum.inl z)).getD (.int 0) = .int (W.count z : Nat) := by
  rw [c.val]
  by_cases h : z ∈ W
  · rw [if_pos h]; rfl
  · rw [if_neg h, List.count_eq_zero.mpr h]; rfl
theorem Cnt.come {kvs : List (Key × V)} {W : List Int} (c : Cnt kvs W) (x : Int) : Cnt (putK kvs (Sum.inl x) (.int ((W.count x : Nat) + 1 : Int))) (W ++ [x]) := by
  refine ⟨fun z => ?_, ?_, putK_keys _ _ _ c.nd⟩
  · rw [val_put, c.val z]
    by_cases e : z = x
    · rw [if_pos e, if_pos (List.mem_append.mpr (.inr (List.mem_singleton.mpr e))), e, List.count_append, List.count_singleton_self]
      rfl
    · rw [if_neg e]
      by_cases h : z ∈ W
      · rw [if_pos h, if_pos (List.mem_append.mpr (.inl h)), List.count_append, List.count_eq_zero.mpr (fun k => e (List.mem_singleton.mp k)), Nat.add_zero]
      · rw [if_neg h, if_neg]
        intro k
        rcases List.mem_append.mp k with k | k
        · exact h k
        · exact e (List.mem_singleton.mp k)
  · rw [ulen_snoc]
    by_cases h : x ∈ W
    · rw [if_pos h, putK_same (by rw [c.has]; exact decide_eq_true h), c.len]
    · rw [if_neg h, putK_none (by rw [c.has]; exact decide_eq_false h), c.len]
/-- one less, and it is still there -/
theorem Cnt.less {kvs : List (Key × V)} {W : List Int} {x : Int} (c : Cnt kvs (x :: W)) (h : x ∈ W) : Cnt (putK kvs (Sum.inl x) (.int (((x :: W).count x : Nat) - 1 : Int))) W := by
  have hx : (valV kvs (Sum.inl x)).isSome = true := by rw [c.has]; exact decide_eq_true List.mem_cons_self
  refine ⟨fun z => ?_, ?_, putK_keys _ _ _ c.nd⟩
  · rw [val_put, c.val z]
    by_cases e : z = x
    · subst e
      rw [if_pos rfl, if_pos h, List.count_cons_self]
      congr 2
      omega
    · rw [if_neg e]
      by_cases k : z ∈ W
      · rw [if_pos k, if_pos (List.mem_cons_of_mem _ k), List.count_cons_of_ne (fun q => e q.symm)]
      · rw [if_neg k, if_neg]
        intro q
        rcases List.mem_cons.mp q with q | q
        · exact e q
        · exact k q
  · rw [putK_same hx, c.len, ulen_cons, if_pos h]
/-- one less, and it is gone -/
theorem Cnt.gone {kvs : List (Key × V)} {W : List Int} {x : Int} (c : Cnt kvs (x :: W)) (h : x ∉ W) (v : V) : Cnt (dropK (putK kvs (Sum.inl x) v) (Sum.inl x)) W := by
  have hx : (valV kvs (Sum.inl x)).isSome = true := by rw [c.has]; exact decide_eq_true List.mem_cons_self
  refine ⟨fun z => ?_, ?_, dropK_keys _ _ (putK_keys _ _ _ c.nd)⟩
  · rw [valV_dropK]
    by_cases e : z = x
    · rw [if_pos (by rw [e]), if_neg (by rw [e]; exact h)]
    · rw [if_neg (fun q => e (Sum.inl.inj q)), val_put, if_neg e, c.val z]
      by_cases k : z ∈ W
      · rw [if_pos k, if_pos (List.mem_cons_of_mem _ k), List.count_cons_of_ne (fun q => e q.symm)]
      · rw [if_neg k, if_neg]
        intro q
        rcases List.mem_cons.mp q with q | q
        · exact e q
        · exact k q
  · have hl := dropK_len (Sum.inl x) (putK kvs (Sum.inl x) v) (putK_keys _ _ _ c.nd) (by rw [val_put, if_pos rfl]; rfl)
    have h2 := c.len
    rw [ulen_cons, if_neg h] at h2
    rw [putK_same hx] at hl
    omega
theorem count_self_pos {W : List Int} {x : Int} : ((x :: W).count x : Nat) = W.count x + 1 := List.count_cons_self
/-! ### ends, and greatest ends -/
/-- the greatest behind with at most m unlike numbers -/
def wi (ns : List Int) (m : Int) (f : Nat) : Int := match endAt ns f (m + 1) with
  | none => ns.length
  | some b => (b : Int) - 1
theorem endAt_none {ns : List Int} {f : Nat} {m : Int} (hf : f ≤ ns.length) (h : (wunN ns f ns.length : Int) < m) : endAt ns f m = none := by
  rcases endAt_spec (m := m) hf with ⟨e, _⟩ | ⟨e, h1, h2, h3, h4, _⟩
  · exact e
  · have k := wunN_monoB (ns := ns) (f := f) (b := e) (k := ns.length - e) h2 (by omega)
    rw [show e + (ns.length - e) = ns.length by omega] at k
    omega
/-- at an end there are just so many -/
theorem endAt_just {ns : List Int} {f e : Nat} {m : Int} (hf : f ≤ ns.length) (h0 : 0 ≤ m) (h : endAt ns f m = some e) : f ≤ e ∧ e ≤ ns.length ∧ (wunN ns f e : Int) = m ∧ ∀ b, f ≤ b → b < e → (wunN ns f b : Int) < m := by
  rcases endAt_spec (m := m) hf with ⟨e2, _⟩ | ⟨e2, h1, h2, h3, h4, h5⟩
  · rw [e2] at h; cases h
  · rw [h1] at h
    cases h
    refine ⟨h2, h3, ?_, fun b k1 k2 => by have := h5 b k1 k2; omega⟩
    by_cases c : f < e
    · have k := wunN_step (ns := ns) (f := f) (b := e - 1) (by omega) (by omega)
      rw [show e - 1 + 1 = e by omega] at k
      have := h5 (e - 1) (by omega) (by omega)
      omega
    · have : f = e := by omega
      subst this
      rw [wunN_none] at h4 ⊢
      omega
/-- what a greatest end is -/
theorem wi_spec {ns : List Int} {m : Int} {f : Nat} (hf : f ≤ ns.length) (h0 : 0 ≤ m) : (f : Int) ≤ wi ns m f ∧ wi ns m f ≤ ns.length ∧ ∀ b : Nat, f ≤ b → b ≤ ns.length → ((wunN ns f b : Int) ≤ m ↔ (b : Int) ≤ wi ns m f) := by
  unfold wi
  cases e : endAt ns f (m + 1) with
  | none =>
    refine ⟨by show (f : Int) ≤ (ns.length : Int); omega, Int.le_refl _, fun b h1 h2 => ⟨fun _ => by show (b : Int) ≤ (ns.length : Int); omega, fun _ => ?_⟩⟩
    rcases endAt_spec (m := m + 1) hf with ⟨_, k⟩ | ⟨e2, k1, _⟩
    · have := k b h1 h2; omega
    · rw [e] at k1; cases k1
  | some b0 =>
    obtain ⟨h1, h2, h3, h4⟩ := endAt_just hf (by omega) e
    have hlt : f < b0 := by
      refine Nat.lt_of_le_of_ne h1 fun z => ?_
      subst z
      rw [wunN_none] at h3
      omega
    refine ⟨by show (f : Int) ≤ (b0 : Int) - 1; omega, by show (b0 : Int) - 1 ≤ _; omega, fun b k1 k2 => ⟨fun k => ?_, fun k => ?_⟩⟩
    · show (b : Int) ≤ (b0 : Int) - 1
      by_cases c : b < b0
      · omega
      · have q := wunN_monoB (ns := ns) (f := f) (b := b0) (k := b - b0) h1 (by omega)
        rw [show b0 + (b - b0) = b by omega] at q
        omega
    · have k' : (b : Int) ≤ (b0 : Int) - 1 := k
      have := h4 b k1 (by omega)
      omega
/-- just so many: from the least end to the greatest -/
theorem just_iff {ns : List Int} {m : Int} {f b : Nat} (hf : f ≤ b) (hb : b ≤ ns.length) (h0 : 0 ≤ m) : (wunN ns f b : Int) = m ↔ ∃ e, endAt ns f m = some e ∧ e ≤ b ∧ (b : Int) ≤ wi ns m f := by
  obtain ⟨w1, w2, w3⟩ := wi_spec (ns := ns) (m := m) (f := f) (by omega) h0
  constructor
  · intro h
    rcases endAt_spec (ns := ns) (f := f) (m := m) (by omega) with ⟨_, k⟩ | ⟨e, k1, k2, k3, k4, k5⟩
    · have := k b hf hb; omega
    · refine ⟨e, k1, ?_, (w3 b hf hb).mp (by omega)⟩
      by_cases c : b < e
      · have := k5 b hf c; omega
      · omega
  · rintro ⟨e, k1, k2, k3⟩
    obtain ⟨h1, h2, h3, h4⟩ := endAt_just (by omega) h0 k1
    have q := wunN_monoB (ns := ns) (f := f) (b := e) (k := b - e) h1 (by omega)
    rw [show e + (b - e) = b by omega] at q
    have := (w3 b hf hb).mpr k3
    omega
/-- the least end lies at or below the greatest -/
theorem end_le_wi {ns : List Int} {m : Int} {f e : Nat} (hf : f ≤ ns.length) (h0 : 0 ≤ m) (h : endAt ns f m = some e) : (e : Int) ≤ wi ns m f := by
  obtain ⟨h1, h2, h3, h4⟩ := endAt_just hf h0 h
  exact ((wi_spec hf h0).2.2 e h1 h2).mp (by omega)
/-! ### stretches -/
def tr (q : Int × Int × Int) : HO := .tup [.int q.1, .int q.2.1, .int q.2.2]
abbrev TripsF (H : Hp) (ls : List Addr) (ps : List (Int × Int × Int)) : Prop := ObjsF H ls ps.length (fun k => tr (ps.getD k (0, 0, 0)))
theorem TripsF.nil {H : Hp} : TripsF H [] [] := ⟨rfl, fun k p h => nomatch h⟩
theorem TripsF.snoc {H : Hp} {ls : List Addr} {ps : List (Int × Int × Int)} {p : Addr} {q : Int × Int × Int} (r : TripsF H ls ps) (e : H p = some (tr q)) : TripsF H (ls ++ [p]) (ps ++ [q]) := by
  have hl := r.len
  refine ⟨by rw [List.length_append, List.length_append, hl]; rfl, fun k x h => ?_⟩
  by_cases hk : k < ls.length
  · rw [List.getElem?_append_left hk] at h
    have h2 := r.row k x h
    have h3 : (ps ++ [q]).getD k (0, 0, 0) = ps.getD k (0, 0, 0) := by
      rw [List.getD_eq_getElem?_getD, List.getD_eq_getElem?_getD, List.getElem?_append_left (by omega)]
    show H x = some (tr ((ps ++ [q]).getD k (0, 0, 0)))
    rw [h3]
    exact h2
  · have h2 := (List.getElem?_eq_some_iff.mp h).1
    rw [List.length_append] at h2
    have h3 : [p].length = 1 := rfl
    have hk2 : k = ls.length := by omega
    subst hk2
    rw [List.getElem?_append_right (Nat.le_refl _), Nat.sub_self] at h
    cases h
    have h4 : (ps ++ [q]).getD ls.length (0, 0, 0) = q := by
      rw [List.getD_eq_getElem?_getD, List.getElem?_append_right (by omega), hl, Nat.sub_self]
      rfl
    show H p = some (tr ((ps ++ [q]).getD ls.length (0, 0, 0)))
    rw [h4]
    exact e
theorem TripsF.get {H : Hp} {ls : List Addr} {ps : List (Int × Int × Int)} {k : Nat} {p : Addr} (r : TripsF H ls ps) (h : ls[k]? = some p) : k < ps.length ∧ ps[k]? = some (ps.getD k (0, 0, 0)) ∧ H p = some (.tup [.int (ps.getD k (0, 0, 0)).1, .int (ps.getD k (0, 0, 0)).2.1, .int (ps.getD k (0, 0, 0)).2.2]) := by
  have h1 : k < ps.length := by have := (List.getElem?_eq_some_iff.mp h).1; have := r.len; omega
  exact ⟨h1, by rw [List.getD_eq_getElem?_getD, List.getElem?_eq_getElem h1]; rfl, r.row k p h⟩
theorem TripsF.offL {H : Hp} {x : Addr} {xs : List V} {ls : List Addr} {ps : List (Int × Int × Int)} (r : TripsF H ls ps) (e : H x = some (.lst xs)) : Off ls x := ObjsF.offKind r e fun k z => nomatch z
/-- for each first place that has some: the least and the greatest behind -/
def strK (ns : List Int) (m : Int) (k : Nat) : List (Int × Int × Int) := (List.range k).filterMap fun (f : Nat) => (endAt ns f m).map fun (e : Nat) => ((f : Int), (e : Int), wi ns m f)
def strL (ns : List Int) (m : Int) : List (Int × Int × Int) := if m = 0 then [] else strK ns m ns.length
theorem strK_s (ns : List Int) (m : Int) (k : Nat) : strK ns m (k + 1) = strK ns m k ++ ((endAt ns k m).map fun (e : Nat) => ((k : Int), (e : Int), wi ns m k)).toList := by
  unfold strK
  rw [List.range_succ, List.filterMap_append]
  congr 1
theorem strK_len (ns : List Int) (m : Int) (k : Nat) : (strK ns m k).length ≤ k := by
  unfold strK
  exact Nat.le_trans (List.length_filterMap_le _ _) (by rw [List.length_range]; exact Nat.le_refl k)
theorem strL_len (ns : List Int) (m : Int) : (strL ns m).length ≤ ns.length := by
  unfold strL
  split
  · exact Nat.zero_le _
  · exact strK_len _ _ _
theorem strL_mem {ns : List Int} {m : Int} {q : Int × Int × Int} (h : q ∈ strL ns m) : m ≠ 0 ∧ ∃ f e : Nat, f < ns.length ∧ endAt ns f m = some e ∧ q = ((f : Int), (e : Int), wi ns m f) := by
  unfold strL at h
  by_cases c : m = 0
  · rw [if_pos c] at h; cases h
  · rw [if_neg c] at h
    unfold strK at h
    obtain ⟨f, hf, e⟩ := List.mem_filterMap.mp h
    obtain ⟨e0, h1, h2⟩ := Option.map_eq_some_iff.mp e
    exact ⟨c, f, e0, List.mem_range.mp hf, h1, h2.symm⟩
/-- how many windows from f on have just so many -/
def hisF (ns : List Int) (m : Int) (f : Nat) : Int := match endAt ns f m with
  | none => 0
  | some e => wi ns m f - (e : Int) + 1
theorem strK_sum (ns : List Int) (m : Int) : ∀ k, ((strK ns m k).map fun q => q.2.2 - q.2.1 + 1).sum = sumTo (hisF ns m) k
  | 0 => rfl
  | k + 1 => by
    have ih := strK_sum ns m k
    rw [strK_s, List.map_append, List.sum_append, ih]
    show _ = sumTo (hisF ns m) k + hisF ns m k
    congr 1
    unfold hisF
    cases h : endAt ns k m with
    | none => rfl
    | some e => show (wi ns m k - (e : Int) + 1) + 0 = wi ns m k - (e : Int) + 1; omega
def hisN (ns : List Int) (m : Int) : Int := ((strL ns m).map fun q => q.2.2 - q.2.1 + 1).sum
/-- .. counted -/
def cntF (ns : List Int) (m : Int) (f j : Nat) : Int := sumTo (fun t => if (wunN ns f (f + 1 + t) : Int) = m then 1 else 0) j
theorem hisF_cnt {ns : List Int} {m : Int} {f : Nat} (hf : f < ns.length) (hm : 1 ≤ m) : hisF ns m f = cntF ns m f (ns.length - f) := by
  unfold hisF cntF
  obtain ⟨w1, w2, w3⟩ := wi_spec (ns := ns) (m := m) (f := f) (by omega) (by omega)
  cases h : endAt ns f m with
  | none =>
    have e : sumTo (fun t => if (wunN ns f (f + 1 + t) : Int) = m then 1 else 0) (ns.length - f) = sumTo (fun _ => 0) (ns.length - f) := sumTo_congr fun t ht => by
      rw [if_neg]
      intro k
      obtain ⟨e, h1, _⟩ := (just_iff (by omega) (by omega) (by omega)).mp k
      rw [h] at h1; cases h1
    rw [e, sumTo_zero]
  | some e =>
    obtain ⟨h1, h2, h3, h4⟩ := endAt_just (by omega) (by omega) h
    have hfe : f < e := by
      refine Nat.lt_of_le_of_ne h1 fun z => ?_
      subst z
      rw [wunN_none] at h3
      omega
    have hew := end_le_wi (by omega) (by omega) h
    have e2 : sumTo (fun t => if (wunN ns f (f + 1 + t) : Int) = m then 1 else 0) (ns.length - f) = sumTo (fun t => if ((e : Int) - (f + 1)) ≤ (t : Int) ∧ (t : Int) < wi ns m f - f then 1 else 0) (ns.length - f) := sumTo_congr fun t ht => by
      have k := just_iff (ns := ns) (m := m) (f := f) (b := f + 1 + t) (by omega) (by omega) (by omega)
      by_cases c : (wunN ns f (f + 1 + t) : Int) = m
      · obtain ⟨e3, k1, k2, k3⟩ := k.mp c
        rw [h] at k1
        cases k1
        rw [if_pos c, if_pos ⟨by omega, by omega⟩]
      · rw [if_neg c, if_neg]
        rintro ⟨k1, k2⟩
        exact c (k.mpr ⟨e, h, by omega, by omega⟩)
    rw [e2, sumTo_count _ _ (by omega) (by omega) _ (by omega)]
    show wi ns m f - (e : Int) + 1 = _
    omega
theorem hisN_cnt {ns : List Int} {m : Int} (hm : 1 ≤ m) : hisN ns m = sumTo (fun f => cntF ns m f (ns.length - f)) ns.length := by
  unfold hisN strL
  rw [if_neg (by omega), strK_sum]
  exact sumTo_congr fun f hf => hisF_cnt hf hm
/-! ### counts -/
/-- behind the lines ahead of f and j windows from f on -/
def dueC (ns : List Int) (f j k : Nat) : Int := sumTo (fun g => cntF ns k g (ns.length - g)) f + cntF ns k f j
def dueCL (ns : List Int) (f j : Nat) : List Int := (List.range (ulen ns + 1)).map (dueC ns f j)
theorem dueCL_len (ns : List Int) (f j : Nat) : (dueCL ns f j).length = ulen ns + 1 := by simp [dueCL]
theorem dueCL_get {ns : List Int} {f j k : Nat} (h : k < ulen ns + 1) : (dueCL ns f j)[k]? = some (dueC ns f j k) := by
  unfold dueCL
  rw [List.getElem?_map, List.getElem?_range h]
  rfl
theorem dueCL_0 (ns : List Int) : dueCL ns 0 0 = List.replicate (ulen ns + 1) 0 := by
  refine List.ext_getElem? fun w => ?_
  by_cases h : w < ulen ns + 1
  · rw [dueCL_get h, List.getElem?_replicate, if_pos h]
    rfl
  · rw [List.getElem?_eq_none (by rw [dueCL_len]; omega), List.getElem?_eq_none (by rw [List.length_replicate]; omega)]
theorem dueCL_set {ns : List Int} {f j : Nat} (h : f + 1 + j ≤ ns.length) : (dueCL ns f j).set (wunN ns f (f + 1 + j)) ((dueCL ns f j).getD (wunN ns f (f + 1 + j)) 0 + 1) = dueCL ns f (j + 1) := by
  have hw : wunN ns f (f + 1 + j) < ulen ns + 1 := by have := wunN_le (ns := ns) (f := f) (b := f + 1 + j) (by omega) h; omega
  refine List.ext_getElem? fun w => ?_
  by_cases hw2 : w < ulen ns + 1
  · rw [List.getElem?_set, dueCL_len, dueCL_get hw2, dueCL_get hw2, getD_of (dueCL_get hw)]
    by_cases e : wunN ns f (f + 1 + j) = w
    · rw [if_pos e, if_pos (by omega), e]
      unfold dueC cntF
      show some _ = some (_ + (_ + (if (wunN ns f (f + 1 + j) : Int) = (w : Int) then 1 else 0)))
      rw [if_pos (by omega)]
      congr 1
      omega
    · rw [if_neg e]
      unfold dueC cntF
      show some _ = some (_ + (_ + (if (wunN ns f (f + 1 + j) : Int) = (w : Int) then 1 else 0)))
      rw [if_neg (by omega), Int.add_zero]
  · rw [List.getElem?_eq_none (by rw [List.length_set, dueCL_len]; omega), List.getElem?_eq_none (by rw [dueCL_len]; omega)]
theorem dueCL_up (ns : List Int) (f : Nat) : dueCL ns f (ns.length - f) = dueCL ns (f + 1) 0 :=
  List.map_congr_left fun k _ => by
    show sumTo _ f + cntF ns k f (ns.length - f) = (sumTo _ f + cntF ns k f (ns.length - f)) + 0
    omega
/-- how many windows have so many, for each number there is -/
def cntW (ns : List Int) : List Int := dueCL ns ns.length 0
theorem cntW_len (ns : List Int) : (cntW ns).length = ulen ns + 1 := dueCL_len ns _ _
theorem cntW_get {ns : List Int} {k : Nat} (h : k < ulen ns + 1) : (cntW ns).getD k 0 = sumTo (fun f => cntF ns k f (ns.length - f)) ns.length := by
  unfold cntW
  rw [getD_of (dueCL_get h)]
  show sumTo _ ns.length + 0 = _
  omega
theorem cntW_his {ns : List Int} {k : Nat} (h : k < ulen ns + 1) (h1 : 1 ≤ k) : (cntW ns).getD k 0 = hisN ns k := by
  rw [cntW_get h, hisN_cnt (by omega)]
theorem his_0 (ns : List Int) : hisN ns 0 = 0 := rfl
theorem cntW_0 (ns : List Int) : (cntW ns).getD 0 0 = 0 := by
  rw [cntW_get (Nat.succ_pos _)]
  have e : sumTo (fun f => cntF ns (0 : Nat) f (ns.length - f)) ns.length = sumTo (fun _ => 0) ns.length := sumTo_congr fun f hf => by
    unfold cntF
    have e2 : sumTo (fun t => if (wunN ns f (f + 1 + t) : Int) = ((0 : Nat) : Int) then 1 else 0) (ns.length - f) = sumTo (fun _ => 0) (ns.length - f) := sumTo_congr fun t ht => by
      rw [if_neg]
      have k1 := wunN_up (ns := ns) (f := f) (b := f) (Nat.le_refl f) hf
      rw [wunN_none, if_pos (by have := lastAt_range ns (ns.getD f 0) f; omega)] at k1
      have k2 := wunN_monoB (ns := ns) (f := f) (b := f + 1) (k := t) (by omega) (by omega)
      omega
    rw [e2, sumTo_zero]
  rw [e, sumTo_zero]
/-- beyond there is none -/
theorem his_none {ns : List Int} {m : Int} (h : (ulen ns : Int) < m) : hisN ns m = 0 := by
  rw [hisN_cnt (by omega)]
  have e : sumTo (fun f => cntF ns m f (ns.length - f)) ns.length = sumTo (fun _ => 0) ns.length := sumTo_congr fun f hf => by
    unfold cntF
    have e2 : sumTo (fun t => if (wunN ns f (f + 1 + t) : Int) = m then 1 else 0) (ns.length - f) = sumTo (fun _ => 0) (ns.length - f) := sumTo_congr fun t ht => by
      rw [if_neg]
      have := wunN_le (ns := ns) (f := f) (b := f + 1 + t) (by omega) (by omega)
      omega
    rw [e2, sumTo_zero]
  rw [e, sumTo_zero]
theorem his_due {ns : List Int} {m : Int} (h : 0 ≤ m) : (cntW ns ++ [0]).getD (if ((cntW ns).length : Int) < m then ((cntW ns).length : Int) else m).toNat 0 = hisN ns m := by
  have hl := cntW_len ns
  by_cases c : ((cntW ns).length : Int) < m
  · rw [if_pos c, Int.toNat_natCast, his_none (by omega), List.getD_eq_getElem?_getD, List.getElem?_append_right (Nat.le_refl _), Nat.sub_self]
    rfl
  · rw [if_neg c]
    by_cases e : m = ((cntW ns).length : Int)
    · rw [e, Int.toNat_natCast, his_none (by omega), List.getD_eq_getElem?_getD, List.getElem?_append_right (Nat.le_refl _), Nat.sub_self]
      rfl
    · have e2 : m = ((m.toNat : Nat) : Int) := by omega
      rw [List.getD_eq_getElem?_getD, List.getElem?_append_left (by omega), ← List.getD_eq_getElem?_getD]
      by_cases z : m.toNat = 0
      · rw [z, cntW_0, e2, z]; exact (his_0 ns).symm
      · rw [cntW_his (by omega) (by omega), ← e2]
/-! ### the longest window with at most so many -/
def better (b : Int × Int) (f e : Int) : Int × Int := if e - f > b.2 - b.1 then (f, e) else b
def lwK (ns : List Int) (m : Int) : Nat → Int × Int
  | 0 => (0, 0)
  | k + 1 => better (lwK ns m k) k (wi ns m k)
def lwin (ns : List Int) (m : Int) : Int × Int := lwK ns m ns.length
theorem better_ok {b : Int × Int} {f e n : Int} (h : 0 ≤ b.1 ∧ b.1 ≤ b.2 ∧ b.2 ≤ n) (h1 : 0 ≤ f) (h2 : f ≤ e) (h3 : e ≤ n) : 0 ≤ (better b f e).1 ∧ (better b f e).1 ≤ (better b f e).2 ∧ (better b f e).2 ≤ n := by
  unfold better
  split
  · exact ⟨h1, h2, h3⟩
  · exact h
theorem lwK_ok {ns : List Int} {m : Int} (h0 : 0 ≤ m) : ∀ k, k ≤ ns.length → 0 ≤ (lwK ns m k).1 ∧ (lwK ns m k).1 ≤ (lwK ns m k).2 ∧ (lwK ns m k).2 ≤ ns.length
  | 0, _ => ⟨Int.le_refl 0, Int.le_refl 0, by show (0 : Int) ≤ ns.length; omega⟩
  | k + 1, h => by
    have ih := lwK_ok (ns := ns) h0 k (by omega)
    obtain ⟨w1, w2, _⟩ := wi_spec (ns := ns) (m := m) (f := k) (by omega) h0
    exact better_ok ih (by omega) w1 w2
/-- by widths: the widest so far below j that has at most so many -/
def lwJ (ns : List Int) (m : Int) (b : Int × Int) (f j : Nat) : Int × Int := better b f (f + (min (j - 1) (wi ns m f - f).toNat : Nat))
theorem lwJ_0 {ns : List Int} {m : Int} {b : Int × Int} {f : Nat} (h : b.1 ≤ b.2) : lwJ ns m b f 0 = b := by
  unfold lwJ better
  rw [if_neg]
  rw [show min (0 - 1) (wi ns m f - f).toNat = 0 by omega]
  show ¬ (f : Int) + 0 - f > b.2 - b.1
  omega
theorem lwJ_s {ns : List Int} {m : Int} {b : Int × Int} {f j : Nat} (h : b.1 ≤ b.2) (h0 : 0 ≤ m) (hj : f + j ≤ ns.length) : lwJ ns m b f (j + 1) = if (wunN ns f (f + j) : Int) ≤ m ∧ (j : Int) > (lwJ ns m b f j).2 - (lwJ ns m b f j).1 then ((f : Int), (f : Int) + j) else lwJ ns m b f j := by
  obtain ⟨w1, w2, w3⟩ := wi_spec (ns := ns) (m := m) (f := f) (by omega) h0
  have k := w3 (f + j) (by omega) hj
  unfold lwJ
  rw [show j + 1 - 1 = j by omega]
  by_cases c : (wunN ns f (f + j) : Int) ≤ m
  · have k1 := k.mp c
    rw [show min j (wi ns m f - f).toNat = j by omega]
    rw [show min (j - 1) (wi ns m f - f).toNat = j - 1 by omega]
    unfold better
    by_cases d : (f : Int) + ((j : Nat) : Int) - f > b.2 - b.1
    · rw [if_pos d, if_pos]
      refine ⟨c, ?_⟩
      split
      · show (j : Int) > (f : Int) + ((j - 1 : Nat) : Int) - f
        omega
      · omega
    · have d2 : ¬ (f : Int) + ((j - 1 : Nat) : Int) - f > b.2 - b.1 := by omega
      rw [if_neg d, if_neg d2, if_neg]
      rintro ⟨_, z⟩
      omega
  · have k1 : ¬ ((f + j : Nat) : Int) ≤ wi ns m f := fun z => c (k.mpr z)
    rw [if_neg (fun z => c z.1)]
    rw [show min j (wi ns m f - f).toNat = min (j - 1) (wi ns m f - f).toNat by omega]
theorem lwJ_end {ns : List Int} {m : Int} {b : Int × Int} {f : Nat} (h0 : 0 ≤ m) (hf : f ≤ ns.length) : lwJ ns m b f (ns.length - f + 1) = better b f (wi ns m f) := by
  obtain ⟨w1, w2, _⟩ := wi_spec (ns := ns) (m := m) (f := f) hf h0
  unfold lwJ
  rw [show ((f : Int) + ((min (ns.length - f + 1 - 1) (wi ns m f - f).toNat : Nat) : Int)) = wi ns m f by omega]
theorem lwJ_ok {ns : List Int} {m : Int} {b : Int × Int} {f j : Nat} (h0 : 0 ≤ m) (hf : f ≤ ns.length) (h : 0 ≤ b.1 ∧ b.1 ≤ b.2 ∧ b.2 ≤ ns.length) : 0 ≤ (lwJ ns m b f j).1 ∧ (lwJ ns m b f j).1 ≤ (lwJ ns m b f j).2 ∧ (lwJ ns m b f j).2 ≤ ns.length := by
  obtain ⟨w1, w2, _⟩ := wi_spec (ns := ns) (m := m) (f := f) hf h0
  unfold lwJ better
  split
  · refine ⟨?_, ?_, ?_⟩
    · show (0 : Int) ≤ (f : Int); omega
    · show (f : Int) ≤ (f : Int) + _; omega
    · show (f : Int) + ((min (j - 1) (wi ns m f - f).toNat : Nat) : Int) ≤ ns.length; omega
  · exact h
/-- the last first place has no window wider than 0 -/
theorem lw_last {ns : List Int} {m : Int} (h0 : 0 ≤ m) : better (lwin ns m) ns.length (wi ns m ns.length) = lwin ns m := by
  obtain ⟨w1, w2, _⟩ := wi_spec (ns := ns) (m := m) (f := ns.length) (Nat.le_refl _) h0
  have k := lwK_ok (ns := ns) h0 ns.length (Nat.le_refl _)
  unfold better
  rw [if_neg]
  unfold lwin
  omega
/-! ### the longest and the shortest window with just so many -/
/-- a pair or None -/
structure OptP (H : Hp) (v : V) (o : Option (Int × Int)) : Prop where
  is : (o = none ∧ v = .non) ∨ ∃ (x y : Int) (p : Addr), o = some (x, y) ∧ v = .ref p ∧ H p = some (.tup [.int x, .int y])
theorem OptP.same {H H' : Hp} {v : V} {o : Option (Int × Int)} (k : OptP H v o) (s : Same H H') : OptP H' v o := by
  rcases k.is with h | ⟨x, y, p, h1, h2, h3⟩
  · exact ⟨.inl h⟩
  · exact ⟨.inr ⟨x, y, p, h1, h2, s _ _ h3⟩⟩
theorem OptP.non {H : Hp} : OptP H .non none := ⟨.inl ⟨rfl, rfl⟩⟩
theorem OptP.pair {H : Hp} {p : Addr} {x y : Int} (h : H p = some (.tup [.int x, .int y])) : OptP H (.ref p) (some (x, y)) := ⟨.inr ⟨x, y, p, rfl, rfl, h⟩⟩
def wbo (o : Option (Int × Int)) (f e : Int) : Option (Int × Int) := match o with
  | none => some (f, e)
  | some b => if e - f > b.2 - b.1 then some (f, e) else some b
def sbo (o : Option (Int × Int)) (f e : Int) : Option (Int × Int) := match o with
  | none => some (f, e)
  | some b => if e - f < b.2 - b.1 then some (f, e) else some b
def lonL (qs : List (Int × Int × Int)) : Option (Int × Int) := qs.foldl (fun o q => wbo o q.1 q.2.2) none
def shoL (qs : List (Int × Int × Int)) : Option (Int × Int) := qs.foldl (fun o q => sbo o q.1 q.2.1) none
def lon (ns : List Int) (m : Int) : Option (Int × Int) := lonL (strL ns m)
def sho (ns : List Int) (m : Int) : Option (Int × Int) := shoL (strL ns m)
theorem lonL_snoc (qs : List (Int × Int × Int)) (q : Int × Int × Int) : lonL (qs ++ [q]) = wbo (lonL qs) q.1 q.2.2 := by unfold lonL; rw [List.foldl_append]; rfl
theorem shoL_snoc (qs : List (Int × Int × Int)) (q : Int × Int × Int) : shoL (qs ++ [q]) = sbo (shoL qs) q.1 q.2.1 := by unfold shoL; rw [List.foldl_append]; rfl
/-- bounds -/
def OkP (n : Nat) (o : Option (Int × Int)) : Prop := ∀ x y, o = some (x, y) → 0 ≤ x ∧ x ≤ y ∧ y ≤ n
theorem OkP.none {n : Nat} : OkP n none := fun _ _ h => nomatch h
theorem OkP.wbo {n : Nat} {o : Option (Int × Int)} {f e : Int} (k : OkP n o) (h1 : 0 ≤ f) (h2 : f ≤ e) (h3 : e ≤ n) : OkP n (wbo o f e) := by
  intro x y h
  cases o with
  | none => cases h; exact ⟨h1, h2, h3⟩
  | some b =>
    have h' : (if e - f > b.2 - b.1 then some (f, e) else some b) = some (x, y) := h
    split at h'
    · cases h'; exact ⟨h1, h2, h3⟩
    · exact k x y h'
theorem OkP.sbo {n : Nat} {o : Option (Int × Int)} {f e : Int} (k : OkP n o) (h1 : 0 ≤ f) (h2 : f ≤ e) (h3 : e ≤ n) : OkP n (sbo o f e) := by
  intro x y h
  cases o with
  | none => cases h; exact ⟨h1, h2, h3⟩
  | some b =>
    have h' : (if e - f < b.2 - b.1 then some (f, e) else some b) = some (x, y) := h
    split at h'
    · cases h'; exact ⟨h1, h2, h3⟩
    · exact k x y h'
theorem okP_str {ns : List Int} {m : Int} (h0 : 0 ≤ m) : ∀ k, k ≤ ns.length → OkP ns.length (lonL (strK ns m k)) ∧ OkP ns.length (shoL (strK ns m k))
  | 0, _ => ⟨OkP.none, OkP.none⟩
  | k + 1, h => by
    obtain ⟨i1, i2⟩ := okP_str (ns := ns) h0 k (by omega)
    rw [strK_s]
    cases e : endAt ns k m with
    | none => rw [Option.map_none, Option.toList_none, List.append_nil]; exact ⟨i1, i2⟩
    | some b =>
      obtain ⟨w1, w2, _⟩ := wi_spec (ns := ns) (m := m) (f := k) (by omega) h0
      obtain ⟨e1, e2, _, _⟩ := endAt_just (ns := ns) (f := k) (by omega) h0 e
      rw [Option.map_some, Option.toList_some, lonL_snoc, shoL_snoc]
      exact ⟨i1.wbo (by show (0 : Int) ≤ (k : Int); omega) w1 w2, i2.sbo (by show (0 : Int) ≤ (k : Int); omega) (by show (k : Int) ≤ (b : Int); omega) (by show (b : Int) ≤ _; omega)⟩
theorem okP_lon {ns : List Int} {m : Int} (h0 : 0 ≤ m) : OkP ns.length (lon ns m) ∧ OkP ns.length (sho ns m) := by
  unfold lon sho strL
  split
  · exact ⟨OkP.none, OkP.none⟩
  · exact okP_str h0 _ (Nat.le_refl _)
/-- a line, by widths: behind the widths up to j -/
def lonJ (ns : List Int) (m : Int) (o : Option (Int × Int)) (f j : Nat) : Option (Int × Int) := match endAt ns f m with
  | none => o
  | some e => if e ≤ f + j then wbo o f (min ((f : Int) + j) (wi ns m f)) else o
def shoJ (ns : List Int) (m : Int) (o : Option (Int × Int)) (f j : Nat) : Option (Int × Int) := match endAt ns f m with
  | none => o
  | some e => if e ≤ f + j then sbo o f e else o
theorem endAt_pos {ns : List Int} {f e : Nat} {m : Int} (hf : f ≤ ns.length) (h1 : 1 ≤ m) (h : endAt ns f m = some e) : f < e := by
  obtain ⟨k1, _, k3, _⟩ := endAt_just hf (by omega) h
  refine Nat.lt_of_le_of_ne k1 fun z => ?_
  subst z
  rw [wunN_none] at k3
  omega
theorem lonJ_0 {ns : List Int} {m : Int} {o : Option (Int × Int)} {f : Nat} (hf : f ≤ ns.length) (h1 : 1 ≤ m) : lonJ ns m o f 0 = o ∧ shoJ ns m o f 0 = o := by
  unfold lonJ shoJ
  cases e : endAt ns f m with
  | none => exact ⟨rfl, rfl⟩
  | some b =>
    have := endAt_pos hf h1 e
    exact ⟨if_neg (by omega), if_neg (by omega)⟩
theorem lonJ_s {ns : List Int} {m : Int} {o : Option (Int × Int)} {f j : Nat} (hj : f + (j + 1) ≤ ns.length) (h1 : 1 ≤ m) : lonJ ns m o f (j + 1) = if (wunN ns f (f + (j + 1)) : Int) = m then wbo (lonJ ns m o f j) f ((f : Int) + ((j : Int) + 1)) else lonJ ns m o f j := by
  have k := just_iff (ns := ns) (m := m) (f := f) (b := f + (j + 1)) (by omega) hj (by omega)
  obtain ⟨w1, w2, _⟩ := wi_spec (ns := ns) (m := m) (f := f) (by omega) (show 0 ≤ m by omega)
  unfold lonJ
  cases e : endAt ns f m with
  | none =>
    rw [if_neg]
    intro z
    obtain ⟨e2, h, _⟩ := k.mp z
    rw [e] at h; cases h
  | some b =>
    have hew := end_le_wi (by omega) (by omega) e
    show (if b ≤ f + (j + 1) then wbo o f (min ((f : Int) + ((j + 1 : Nat) : Int)) (wi ns m f)) else o) = if _ then wbo (if b ≤ f + j then wbo o f (min ((f : Int) + j) (wi ns m f)) else o) f _ else (if b ≤ f + j then wbo o f (min ((f : Int) + j) (wi ns m f)) else o)
    by_cases c : (wunN ns f (f + (j + 1)) : Int) = m
    · obtain ⟨e2, h, h2, h3⟩ := k.mp c
      rw [e] at h
      cases h
      rw [if_pos c, if_pos h2]
      rw [show min ((f : Int) + ((j + 1 : Nat) : Int)) (wi ns m f) = (f : Int) + ((j : Int) + 1) by omega]
      by_cases d : b ≤ f + j
      · rw [if_pos d, show min ((f : Int) + j) (wi ns m f) = (f : Int) + j by omega]
        cases o with
        | none =>
          show some _ = (if _ then _ else _)
          rw [if_pos (by show (f : Int) + ((j : Int) + 1) - f > (f : Int) + j - f; omega)]
        | some p =>
          show (if (f : Int) + ((j : Int) + 1) - f > p.2 - p.1 then some ((f : Int), (f : Int) + ((j : Int) + 1)) else some p) = wbo (if (f : Int) + j - f > p.2 - p.1 then some ((f : Int), (f : Int) + j) else some p) f ((f : Int) + ((j : Int) + 1))
          by_cases q : (f : Int) + j - f > p.2 - p.1
          · rw [if_pos q, if_pos (by omega)]
            show _ = (if _ then _ else _)
            rw [if_pos (by show (f : Int) + ((j : Int) + 1) - f > (f : Int) + j - f; omega)]
          · rw [if_neg q]
            rfl
      · rw [if_neg d]
    · rw [if_neg c]
      by_cases d : b ≤ f + j
      · have hw : ¬ ((f + (j + 1) : Nat) : Int) ≤ wi ns m f := fun z => c (k.mpr ⟨b, e, by omega, z⟩)
        rw [if_pos d, if_pos (by omega), show min ((f : Int) + ((j + 1 : Nat) : Int)) (wi ns m f) = min ((f : Int) + j) (wi ns m f) by omega]
      · rw [if_neg d, if_neg]
        intro z
        exact c (k.mpr ⟨b, e, z, by omega⟩)
theorem shoJ_s {ns : List Int} {m : Int} {o : Option (Int × Int)} {f j : Nat} (hj : f + (j + 1) ≤ ns.length) (h1 : 1 ≤ m) : shoJ ns m o f (j + 1) = if (wunN ns f (f + (j + 1)) : Int) = m then sbo (shoJ ns m o f j) f ((f : Int) + ((j : Int) + 1)) else shoJ ns m o f j := by
  have k := just_iff (ns := ns) (m := m) (f := f) (b := f + (j + 1)) (by omega) hj (by omega)
  unfold shoJ
  cases e : endAt ns f m with
  | none =>
    rw [if_neg]
    intro z
    obtain ⟨e2, h, _⟩ := k.mp z
    rw [e] at h; cases h
  | some b =>
    have hew := end_le_wi (by omega) (by omega) e
    show (if b ≤ f + (j + 1) then sbo o f b else o) = if _ then sbo (if b ≤ f + j then sbo o f b else o) f _ else (if b ≤ f + j then sbo o f b else o)
    by_cases c : (wunN ns f (f + (j + 1)) : Int) = m
    · obtain ⟨e2, h, h2, h3⟩ := k.mp c
      rw [e] at h
      cases h
      rw [if_pos c, if_pos h2]
      by_cases d : b ≤ f + j
      · rw [if_pos d]
        cases o with
        | none =>
          show some _ = (if _ then _ else _)
          rw [if_neg (by show ¬ (f : Int) + ((j : Int) + 1) - f < (b : Int) - f; omega)]
        | some p =>
          show (if (b : Int) - f < p.2 - p.1 then some ((f : Int), (b : Int)) else some p) = sbo (if (b : Int) - f < p.2 - p.1 then some ((f : Int), (b : Int)) else some p) f ((f : Int) + ((j : Int) + 1))
          by_cases q : (b : Int) - f < p.2 - p.1
          · rw [if_pos q]
            show _ = (if _ then _ else _)
            rw [if_neg (by show ¬ (f : Int) + ((j : Int) + 1) - f < (b : Int) - f; omega)]
          · rw [if_neg q]
            show _ = (if _ then _ else _)
            rw [if_neg (by omega)]
      · rw [if_neg d, show (b : Int) = (f : Int) + ((j : Int) + 1) by omega]
    · rw [if_neg c]
      by_cases d : b ≤ f + j
      · rw [if_pos d, if_pos (by omega)]
      · rw [if_neg d, if_neg]
        intro z
        exact c (k.mpr ⟨b, e, z, by omega⟩)
theorem lonJ_end {ns : List Int} {m : Int} {f : Nat} (hf : f ≤ ns.length) (h1 : 1 ≤ m) : lonJ ns m (lonL (strK ns m f)) f (ns.length - f) = lonL (strK ns m (f + 1)) ∧ shoJ ns m (shoL (strK ns m f)) f (ns.length - f) = shoL (strK ns m (f + 1)) := by
  obtain ⟨w1, w2, _⟩ := wi_spec (ns := ns) (m := m) (f := f) hf (show 0 ≤ m by omega)
  rw [strK_s]
  unfold lonJ shoJ
  cases e : endAt ns f m with
  | none => rw [Option.map_none, Option.toList_none, List.append_nil]; exact ⟨rfl, rfl⟩
  | some b =>
    obtain ⟨_, e2, _, _⟩ := endAt_just (ns := ns) (f := f) hf (by omega) e
    rw [Option.map_some, Option.toList_some, lonL_snoc, shoL_snoc]
    refine ⟨?_, ?_⟩
    · show (if b ≤ f + (ns.length - f) then _ else _) = _
      rw [if_pos (by omega), show min ((f : Int) + ((ns.length - f : Nat) : Int)) (wi ns m f) = wi ns m f by omega]
    · show (if b ≤ f + (ns.length - f) then _ else _) = _
      rw [if_pos (by omega)]
/-- the last first place has none -/
theorem strK_last {ns : List Int} {m : Int} (h1 : 1 ≤ m) : strK ns m (ns.length + 1) = strK ns m ns.length := by
  rw [strK_s]
  cases e : endAt ns ns.length m with
  | none => rw [Option.map_none, Option.toList_none, List.append_nil]
  | some b =>
    have k1 := endAt_pos (Nat.le_refl _) h1 e
    obtain ⟨_, e2, _, _⟩ := endAt_just (ns := ns) (f := ns.length) (Nat.le_refl _) (by omega) e
    omega
end Ur

namespace Ur
open PySem PySem.Spec PyProof.Rows L2
/-! ### defs that ask repr of lists and tuples: called where no guard stands -/
section
variable {P : Program} {w : World} {K : PySem.W.Frag} {mg : Str → Option Value} {base : Heap}
/-- a promise that is kept where no guard stands -/
structure FnG (P : Program) (w : World) (K : PySem.W.Frag) (mg : Str → Option Value) (base : Heap) (k : Nat)
    (f : Addr) (fd : FuncData) (ps : List Str) (sp : Sp) : Prop where
  len : ∀ vs H Q E, sp vs H Q E → vs.length = ps.length
  go : ∀ {A : Around} {outer : List Env} {s : Shared} {H : Hp} {args : Args} {us : List Value} {vs : List V} {Q : VK} {E : XK},
    A.guards = some [] → Room k A → Env0 P w K mg base A outer s H → BindsTo s fd args (ps.zip us) →
    Vals vs us → sp vs H Q E →
    codeAny (model P w) A (.call (.ref f) args) (CR CX0 outer P w H s Q E) s
theorem FnG.of {k : Nat} {f : Addr} {fd : FuncData} {ps : List Str} {sp : Sp} (F : FnOk P w K mg base CX0 k f fd ps sp) : FnG P w K mg base k f fd ps sp :=
  ⟨F.len, fun _ r e b v h => F.run _ _ _ _ _ _ _ _ _ r e b v h⟩
/-- a def's own body, where no guard stands -/
theorem okG {x qual : Str} {st : Stmt} {f : Addr} {fd : FuncData} {N ps : List Str} {k : Nat} {sp : Sp} (F : Fun K x qual st f fd) (S : FnScope N ps (defScope st))
    (len : ∀ vs H Q E, sp vs H Q E → vs.length = ps.length)
    (body : ∀ (cdv : Value) (A : Around) (outer : List Env) (s : Shared) (H : Hp) (vs : List V) (Q : VK) (E : XK),
      Room k (A.deeper (envOfC qual (defScope st) s.heap.objs.size f cdv)) → (A.deeper (envOfC qual (defScope st) s.heap.objs.size f cdv)).guards = some [] → sp vs H Q E →
      ∃ t, PSs (cxOf CX0 P w K mg base N qual (defScope st) f cdv A outer s H E).nox (defBody st) t ∧
        t { nx := fun _ H' => Q .non H', rt := Q } (start N vs) H) : FnG P w K mg base (k + 1) f fd ps sp := by
  obtain ⟨oc, od, kV, doc, pm, an, cdv, ct, osl, rfl, found, code⟩ := F.ex
  constructor
  · exact len
  intro A outer s H args us vs Q E gd room e0 bnd vals want
  have n : vs.length = ps.length := len _ _ _ _ want
  have bk : ∀ b o, base.get? b = some o → s.heap.get? b = some o := fun b o z => (e0.bs b o z).1
  have kin : K.In s.heap := e0.mod.kin.keeps bk
  have kinds : ∀ y ∈ ps.zip us, (defScope st).names.lookup y.1 = some .local ∨ ((defScope st).names.lookup y.1 = some .cell ∧
      ((cellsFrom (s.heap.objs.size + 1) (defScope st).names []).lookup y.1).isSome = true) := by
    rintro ⟨z, u⟩ hz
    rcases S.par z (List.of_mem_zip hz).1 with c | c
    · exact Or.inl c
    · exact Or.inr ⟨c, PySem.W.cellsFrom_some _ _ _ (Or.inl c)⟩
  apply codeAny_call_function room.depth (kin _ _ found) rfl S.co S.gen rfl (PySem.W.codeRec_of kin code)
  refine bnd _ _ _ _ (wpAny_newFunctionEnv_cells S.kind kinds fun env he s1 inC => ?_)
  subst he
  constructor
  · exact (e0.mod.nolimit.keeps bk).keeps inC.toInCall.keep
  refine codeAny_func ?_
  obtain ⟨t, ok, q⟩ := body cdv A outer s H vs Q E (room.deeper _) gd want
  have inv := inv_start (CX := CX0) (E := E) S room.hd e0 n vals inC
  refine wpAny_mono (ok.nox.run [] s1 (start N vs) H _ inv q) (fun fl s' ends => ?_) (fun _ _ z => z)
  cases fl with
  | brk => obtain ⟨_, _, _, z⟩ := ends; exact z.elim
  | cont => obtain ⟨_, _, _, z⟩ := ends; exact z.elim
  | next =>
    obtain ⟨_, H2, J, z⟩ := ends
    exact ⟨V.non, H2, J.os, J.bare, J.base, J.hok, rfl, z⟩
  | ret u =>
    obtain ⟨v, _, H2, J, rv, z⟩ := ends
    exact ⟨v, H2, J.os, J.bare, J.base, J.hok, rv, z⟩
end
theorem call_repr {X : Cx} (gd : X.A.guards = some []) (hu : X.A.units + 66 < cLine) : CallR X (.builtin "repr") (rRepr X.K) := by
  intro pins s σ H xs us Q I r h
  obtain ⟨p, d, rfl, hd, h1, h2, h3, h4, q⟩ := h
  obtain ⟨u, rfl, ru⟩ := vals1 r
  obtain ⟨as, rd⟩ := Dp.reads I d _ u hd ru
  cases (show u = Value.ref p from ru)
  exact repr_of_reads' rd h1 (PyData.noDict_hsm h2) gd (by omega) (fun _ _ z => z)
    (fun h' t tk keep => ⟨.str d.shown, H, I.kept (t' := tk) keep, ⟨t, rfl⟩, q⟩) h4
/-- a call where no guard stands -/
theorem pe_callG {X : Cx} {k : Nat} {f : Addr} {fd : FuncData} {ps : List Str} {sp : Sp} {x : Str} {p pos : Pos} {e : Expr} {es : List Expr} {t : TA}
    (F : FnG X.prog X.w X.K X.mg X.base k f fd ps sp) (room : Room k X.A) (gd : X.A.guards = some []) (hg : Gl X x) (hm : X.mg x = some (.ref f))
    (hk : PySem.W.keepIn X.K (.ref f) = true) (hb : Binds X.K fd ps []) (ha : PA X (e :: es) t) (hdb : (x == ("__debug__" : Str)) = false := by decide)
    (he : starEach (e :: es) X.env = (false, eval e X.env) :: starEach es X.env := by rfl)
    (hpl : (backTo pos (starEach es X.env)).any (·.1) = false := by rfl) : PE X (.Call (.Name x p) (e :: es) [] pos) (tCall sp [] E0 t) := by
  constructor
  intro pins s σ H Q I h
  refine wpAny_Call_Name_kw (ld_glob I hg hm ?_ hdb)
  refine PySem.W.callWith_K (h₀ := X.base) I.ok.mod.kin hk ?_ he hpl
  refine thn (ha.run pos pins s σ H _ I h) ?_
  rintro us s1 ⟨vs, H1, J, rel, want⟩
  refine ⟨J.kIn, ?_⟩
  have want2 : sp vs H1 Q E0 := by
    have z : sp (vs ++ []) H1 Q E0 := want
    rwa [List.append_nil] at z
  have n : us.length = ps.length := by rw [← rel.length]; exact F.len _ _ _ _ want2
  have b := hb s1 us J.kIn (by rw [List.append_nil]; exact n)
  rw [List.append_nil] at b
  refine wpAny_call (codeAny_mono (F.go gd room J.env0 b rel want2) fun res s' z => ?_)
  cases res with
  | error u => exact (show False from z).elim
  | ok fl =>
    cases fl with
    | ret u => exact J.after z
    | next => exact z.elim
    | brk => exact z.elim
    | cont => exact z.elim
end Ur
namespace Ur
open PySem PySem.Spec PyProof.Rows L2
/-- the law's own call: only the script is known of -/
theorem lawG {P : Program} {w : World} {K : PySem.W.Frag} {mg mb : Str → Option Value} {k : Nat} {fa a : Addr} {fd : FuncData} {x : Str} {sp : Sp} {s : Shared} {us : List Value} {ns : List Int}
    (kin : K.In s.heap) (main : s.heap.Ns mainGlobals mg) (blt : s.heap.Ns builtinsNs mb)
    (boot : ∀ z : Str, z ≠ "__name__" → mb z = bootBuiltins z) (lim : s.heap.NoLimit) (noGen : s.gens = #[])
    (at_ : s.heap.get? a = some { cls := .type "list", data := .seq us.toArray }) (hints : IntsAre us ns) (few : ns.length ≤ sizeLine) (room : Room k callerA)
    (F : ∀ base : Heap, K.In base → base.Ns mainGlobals mg → FnG P w K mg base k fa fd [x] sp)
    (bnd : ∀ (s : Shared) (u : Value), BindsTo s fd ⟨[u], []⟩ [(x, u)])
    (want : ∀ H : Hp, Only H → SqL K H a (ns.map V.int) → sp [.ref a] H (fun v _ => v = .bl true) fun _ _ _ => False) :
    codeAny (model P w) callerA (.call (.ref fa) ⟨[.ref a], []⟩)
      (fun r s' => r = .ok (.ret (.bool true)) ∧ OldK s.heap s'.heap ∧ s'.os = s.os ∧ AllBare s'.gens) s := by
  have vals : Vals (ns.map V.int) us := vals_ints hints
  have n := hints.length
  -- with any heap H that knows of nothing but a
  have go : ∀ H : Hp, Only H → SqL K H a (ns.map V.int) → HOk P w H s.heap → (∀ b, b ≠ a → H b = none) →
      (H a = none ∨ K.lookup a = none) →
      codeAny (model P w) callerA (.call (.ref fa) ⟨[.ref a], []⟩)
        (fun r s' => r = .ok (.ret (.bool true)) ∧ OldK s.heap s'.heap ∧ s'.os = s.os ∧ AllBare s'.gens) s := by
    intro H only sq hok off offK
    have inB : ∀ {b : Addr} {o : Obj}, s.heap.get? b = some o → H b = none → (hidT s.heap H).get? b = some o :=
      fun z q => hidT_get z q
    have free : ∀ {b : Addr} {o : Obj} {es : Array DictEntry} {ep : Nat}, s.heap.get? b = some o → o.data = .dict es ep → H b = none := by
      intro b o es ep z dz
      refine off b fun e => ?_
      rw [e, at_] at z
      cases z
      cases (show Data.seq us.toArray _ = Data.dict es ep from dz)
    have kinB : K.In (hidT s.heap H) := by
      intro b o z
      refine inB (kin b o z) ?_
      by_cases e : b = a
      · rcases offK with q | q
        · rw [e]; exact q
        · rw [e, q] at z; cases z
      · exact off b e
    have nsB : ∀ {b : Addr} {m : Str → Option Value}, s.heap.Ns b m → (hidT s.heap H).Ns b m := by
      rintro b m ⟨o, es, ep, z, dz, rest⟩
      exact ⟨o, es, ep, inB z (free z dz), dz, rest⟩
    have md : Mod K mg (hidT s.heap H) := by
      obtain ⟨mc, l1, l2⟩ := lim
      exact ⟨kinB, nsB main, ⟨mb, nsB blt, boot⟩, mc, nsB l1, l2⟩
    have none : ∀ {b : Addr}, b ∉ ([] : List Addr) := fun {b} z => nomatch z
    have e0 : Env0 P w K mg (hidT s.heap H) callerA [] s H :=
      ⟨rfl, md, fun b o z => of_hidT z, Nat.le_of_eq (hidT_size _ _), trivial, fun b z => (none z).elim, hok, .of_eq noGen⟩
    have call := (F _ kinB (nsB main)).go (A := callerA) (args := ⟨[.ref a], []⟩) (us := [.ref a]) (vs := [.ref a]) rfl room e0 (bnd s (.ref a)) (.cons rfl .nil) (want H only sq)
    refine codeAny_mono call fun res s' z => ?_
    match res, z with
    | .ok (.ret u), z =>
      obtain ⟨v, H2, os, bare, un, hok2, rv, q⟩ := z
      have q2 : v = .bl true := q
      subst q2
      cases (show u = Value.bool true from rv)
      refine ⟨rfl, OldK.of_keep fun b o z => ?_, os, bare⟩
      rcases only b with q | ⟨ob, xs, q⟩
      · exact un.keep b o z q (fun m => (none m).elim) (fun m => (none m).elim)
      · obtain ⟨y1, _⟩ := hok b _ q
        obtain ⟨y2, _⟩ := hok2 b _ (un.frzs b ob _ q)
        rw [z] at y1
        cases y1
        exact y2
  by_cases own : K.lookup a = none
  · refine go (fun b => if b = a then some (.frz { cls := .type "list", data := .seq us.toArray } (.lst (ns.map V.int))) else none) (fun b => ?_) (.inl (.inr ⟨_, if_pos rfl⟩)) (fun b u z => ?_) (fun b e => if_neg e) (.inr own)
    · by_cases e : b = a
      · exact .inr ⟨_, _, if_pos e⟩
      · exact .inl (if_neg e)
    · by_cases e : b = a
      · subst e
        cases (if_pos rfl).symm.trans z
        exact ⟨at_, by rw [List.length_map]; exact few, us, _, vals, at_⟩
      · cases (if_neg e).symm.trans z
  · obtain ⟨o, ho⟩ := Option.ne_none_iff_exists'.mp own
    have z := kin a o ho
    rw [at_] at z
    cases z
    refine go (fun _ => none) (fun _ => .inl rfl) (.inr ⟨_, us.toArray, _, ho, rfl, rfl, rfl, ?_, ?_⟩) (fun b u z => ?_) (fun _ _ => rfl) (.inl rfl)
    · rw [List.size_toArray, n]; exact few
    · simpa using vals
    · cases (show (none : Option HO) = some u from z)
theorem walkG {l : PySem.W.OpenLaw} {n k : Nat} {q : Program} {loose : List Str} {XP : (Str → Option Value) → Heap → Prop} {YP : World → Heap → Prop} {d : DefRec} {K : Params → PySem.W.Frag} {sp : World → Sp} {x : Str}
    (most : l.most = some n) (few : n ≤ sizeLine) (dflt : d.params.defaults = []) (room : Room k callerA)
    (kin : ∀ (w : World) (h : Heap), YP w h → (K w.params).In h)
    (F : ∀ (w : World) (mg : Str → Option Value) (fa : Addr) (h : Heap), (K w.params).In h → h.Ns mainGlobals mg → mg d.name = some (.ref fa) →
      ∃ fd : FuncData, (∀ (s : Shared) (u : Value), BindsTo s fd ⟨[u], []⟩ [(x, u)]) ∧
        ∀ base : Heap, (K w.params).In base → base.Ns mainGlobals mg → FnG l.prog w (K w.params) mg base k fa fd [x] (sp w))
    (want : ∀ (w : World) (H : Hp) (a : Addr) (ns : List Int), ns.length ≤ n → Only H → SqL (K w.params) H a (ns.map V.int) →
      sp w [.ref a] H (fun v _ => v = .bl true) fun _ _ _ => False) :
    PySem.W.WalkO q loose XP YP l.row.toRowW d [] (fun f vs => PySem.call f vs) := by
  refine Att.attach_call most dflt fun w s₀ s₁ mg mb fa o pm cd doc a vs ns G Y ho hd hcd hmg hobj hints hlen hg => ?_
  obtain ⟨fd, b, f⟩ := F w mg fa _ (kin w _ Y) G.T.g hmg
  exact lawG (kin w _ Y) G.T.g G.T.b G.T.builtins G.T.nolimit hg hobj hints (Nat.le_trans hlen few) room f b fun H only sq => want w H a ns hlen only sq
end Ur

namespace Ur
open PySem L2
def tripL (q : Int × Int × Int) : List Int := [q.1, q.2.1, q.2.2]
def tripsD (ps : List (Int × Int × Int)) : List PyData := (ps.map tripL).map tupD
theorem tripsD_get {ps : List (Int × Int × Int)} {k : Nat} (hk : k < ps.length) : (tripsD ps)[k]? = some (tupD (tripL (ps.getD k (0, 0, 0)))) := by
  have e2 : ps.getD k (0, 0, 0) = ps[k] := by rw [List.getD_eq_getElem?_getD, List.getElem?_eq_getElem hk]; rfl
  rw [tripsD, List.getElem?_map, List.getElem?_map, List.getElem?_eq_getElem hk, e2]
  rfl
theorem dp_trips {K : PySem.W.Frag} {H : Hp} {a : Addr} {ls : List Addr} {ps : List (Int × Int × Int)} (h : SqL K H a (ls.map V.ref)) (r : TripsF H ls ps) : Dp K H (.ref a) (.list (tripsD ps)) := by
  refine .lst h (dpAll_of _ _ (by rw [tripsD, List.length_map, List.length_map, List.length_map, r.len]) fun k v d h1 h2 => ?_)
  rw [List.getElem?_map] at h1
  obtain ⟨p, hp, rfl⟩ := Option.map_eq_some_iff.mp h1
  obtain ⟨hk, _, e⟩ := r.get hp
  rw [tripsD_get hk] at h2
  cases h2
  exact dp_tup (ns := tripL (ps.getD k (0, 0, 0))) e
theorem shaped_trips (ps : List (Int × Int × Int)) : SeqAt.shaped (.list (tripsD ps)) = true := by
  refine shaped_of (canLayAll_of _ fun d h => ?_) ?_
  · obtain ⟨ns, _, rfl⟩ := List.mem_map.mp h
    exact canLayAll_ints ns
  · have h := depthAll_of (m := 2) (tripsD ps) fun d h => by
      obtain ⟨ns, _, rfl⟩ := List.mem_map.mp h
      exact depth_tup ns
    rw [PyData.depth]
    omega
theorem eqv_trips (ps : List (Int × Int × Int)) : PyData.eqv (.list (tripsD ps)) (.list (tripsD ps)) = true := by
  show PyData.eqvAll _ _ = true
  refine eqvAll_refl _ fun d h => ?_
  obtain ⟨ns, _, rfl⟩ := List.mem_map.mp h
  show PyData.eqvAll _ _ = true
  refine eqvAll_refl _ fun d h => ?_
  obtain ⟨n, _, rfl⟩ := List.mem_map.mp h
  show (n == n) = true
  exact beq_self_eq_true _
theorem rEq_trips {K : PySem.W.Frag} {H : Hp} {a b : Addr} {ls ms : List Addr} {ps : List (Int × Int × Int)} {Q : VK} (h1 : SqL K H a (ls.map V.ref)) (h2 : SqL K H b (ms.map V.ref)) (r1 : TripsF H ls ps) (r2 : TripsF H ms ps) (q : Q (.bl true) H) : rEqD K (.ref a) (.ref b) H Q :=
  ⟨_, _, dp_trips h1 r1, dp_trips h2 r2, shaped_trips ps, shaped_trips ps, by rw [eqv_trips]; exact q⟩
theorem rNe_trips {K : PySem.W.Frag} {H : Hp} {a b : Addr} {ls ms : List Addr} {ps : List (Int × Int × Int)} {Q : VK} (h1 : SqL K H a (ls.map V.ref)) (h2 : SqL K H b (ms.map V.ref)) (r1 : TripsF H ls ps) (r2 : TripsF H ms ps) (q : Q (.bl false) H) : rNeD K (.ref a) (.ref b) H Q :=
  ⟨_, _, dp_trips h1 r1, dp_trips h2 r2, shaped_trips ps, shaped_trips ps, by rw [eqv_trips]; exact q⟩
/-- all three small -/
def SmT (ps : List (Int × Int × Int)) : Prop := ∀ q ∈ ps, SmI q.1 ∧ SmI q.2.1 ∧ SmI q.2.2
theorem repr_trips {K : PySem.W.Frag} {H : Hp} {a : Addr} {ls : List Addr} {ps : List (Int × Int × Int)} {Q : VK} (h : SqL K H a (ls.map V.ref)) (r : TripsF H ls ps) (s : SmT ps) (hl : ps.length ≤ 1000) (q : Q (.str (PyData.list (tripsD ps)).shown) H) : rRepr K [.ref a] H Q :=
  repr_good (dp_trips h r) (good_tups (ts := ps.map tripL) (fun ns hn => by
    obtain ⟨t, ht, rfl⟩ := List.mem_map.mp hn
    refine ⟨Nat.le_refl 3, fun n hn => ?_⟩
    obtain ⟨s1, s2, s3⟩ := s t ht
    rcases List.mem_cons.mp hn with rfl | hn
    · exact s1
    rcases List.mem_cons.mp hn with rfl | hn
    · exact s2
    rw [List.mem_singleton.mp hn]
    exact s3) (by rw [List.length_map]; exact hl)) q
theorem SmT.str {ns : List Int} {m : Int} (hl : ns.length ≤ 1000) (hm : 0 ≤ m) : SmT (strL ns m) := by
  intro q hq
  unfold strL at hq
  split at hq
  · cases hq
  · unfold strK at hq
    obtain ⟨f, hf, h⟩ := List.mem_filterMap.mp hq
    have hf2 := List.mem_range.mp hf
    obtain ⟨e, he, rfl⟩ := Option.map_eq_some_iff.mp h
    obtain ⟨k1, k2, _⟩ := endAt_just (by omega) hm he
    obtain ⟨w1, w2, _⟩ := wi_spec (ns := ns) (m := m) (f := f) (by omega) hm
    refine ⟨⟨?_, ?_⟩, ⟨?_, ?_⟩, ⟨?_, ?_⟩⟩
    · show -1000000 < (f : Int); omega
    · show (f : Int) < 1000000; omega
    · show -1000000 < (e : Int); omega
    · show (e : Int) < 1000000; omega
    · show -1000000 < wi ns m f; omega
    · show wi ns m f < 1000000; omega
/-- the ends, up to the j-th after the first place, of windows with just so many -/
def endsJ (ns : List Int) (m : Int) (f j : Nat) : List Int := ((List.range j).filter fun (k : Nat) => decide ((wunN ns f (f + (k + 1)) : Int) = m)).map fun (k : Nat) => (f : Int) + ((k : Int) + 1)
theorem endsJ_s (ns : List Int) (m : Int) (f j : Nat) : endsJ ns m f (j + 1) = endsJ ns m f j ++ (if (wunN ns f (f + (j + 1)) : Int) = m then [(f : Int) + ((j : Int) + 1)] else []) := by
  unfold endsJ
  rw [List.range_succ, List.filter_append, List.map_append]
  congr 1
  by_cases c : (wunN ns f (f + (j + 1)) : Int) = m
  · rw [if_pos c, List.filter_cons_of_pos (by exact decide_eq_true c)]; rfl
  · rw [if_neg c, List.filter_cons_of_neg (by show ¬ decide _ = true; rw [decide_eq_false c]; exact Bool.false_ne_true)]; rfl
theorem endsJ_len (ns : List Int) (m : Int) (f j : Nat) : (endsJ ns m f j).length ≤ j := by
  unfold endsJ
  rw [List.length_map]
  exact Nat.le_trans (List.length_filter_le _ _) (by rw [List.length_range]; exact Nat.le_refl j)
/-- none, or from the least end on, one by one -/
theorem endsJ_is {ns : List Int} {m : Int} {f : Nat} (h1 : 1 ≤ m) : ∀ j : Nat, f + j ≤ ns.length → endsJ ns m f j = match endAt ns f m with
    | none => []
    | some e => (List.range ((min ((f : Int) + j) (wi ns m f)) - e + 1).toNat).map fun (k : Nat) => (e : Int) + (k : Int)
  | 0, h => by
    cases he : endAt ns f m with
    | none => rfl
    | some e =>
      have k := endAt_pos (by omega) h1 he
      have e0 : ((min ((f : Int) + (0 : Nat)) (wi ns m f)) - e + 1).toNat = 0 := by omega
      show endsJ ns m f 0 = List.map _ (List.range _)
      rw [e0]
      rfl
  | j + 1, h => by
    have ih := endsJ_is (ns := ns) (m := m) (f := f) h1 j (by omega)
    have k := just_iff (ns := ns) (m := m) (f := f) (b := f + (j + 1)) (by omega) h (by omega)
    obtain ⟨w1, w2, _⟩ := wi_spec (ns := ns) (m := m) (f := f) (by omega) (show 0 ≤ m by omega)
    rw [endsJ_s, ih]
    cases he : endAt ns f m with
    | none =>
      rw [if_neg (fun z => by
        obtain ⟨e, h2, _⟩ := k.mp z
        rw [he] at h2
        cases h2)]
      rfl
    | some e =>
      have kp := endAt_pos (by omega) h1 he
      have kw : (e : Int) ≤ wi ns m f := by
        obtain ⟨_, k2, k3, _⟩ := endAt_just (by omega) (show 0 ≤ m by omega) he
        obtain ⟨_, h2, _, h4⟩ := (just_iff (ns := ns) (m := m) (f := f) (b := e) (by omega) k2 (by omega)).mp k3
        exact h4
      show List.map _ (List.range _) ++ _ = List.map _ (List.range _)
      by_cases c : e ≤ f + (j + 1) ∧ ((f + (j + 1) : Nat) : Int) ≤ wi ns m f
      · rw [if_pos (k.mpr ⟨e, he, c.1, c.2⟩)]
        have e1 : ((min ((f : Int) + ((j + 1 : Nat) : Int)) (wi ns m f)) - e + 1).toNat = ((min ((f : Int) + (j : Nat)) (wi ns m f)) - e + 1).toNat + 1 := by omega
        rw [e1, List.range_succ, List.map_append]
        congr 1
        show [_] = [_]
        congr 1
        show (f : Int) + ((j : Int) + 1) = (e : Int) + (((min ((f : Int) + (j : Nat)) (wi ns m f)) - e + 1).toNat : Int)
        omega
      · rw [if_neg (fun z => by
          obtain ⟨e', h2, h3, h4⟩ := k.mp z
          rw [he] at h2
          cases h2
          exact c ⟨h3, h4⟩), List.append_nil]
        congr 2
        omega
/-- at the end: none, or the first and the last are known -/
theorem endsJ_all {ns : List Int} {m : Int} {f : Nat} (hf : f ≤ ns.length) (h1 : 1 ≤ m) :
    (endAt ns f m = none ∧ endsJ ns m f (ns.length - f) = []) ∨
    ∃ e : Nat, endAt ns f m = some e ∧ 0 < (endsJ ns m f (ns.length - f)).length ∧ (endsJ ns m f (ns.length - f)).getD 0 0 = e ∧ (endsJ ns m f (ns.length - f)).getD ((endsJ ns m f (ns.length - f)).length - 1) 0 = wi ns m f := by
  have k := endsJ_is (ns := ns) (m := m) (f := f) h1 (ns.length - f) (by omega)
  obtain ⟨w1, w2, _⟩ := wi_spec (ns := ns) (m := m) (f := f) hf (show 0 ≤ m by omega)
  cases he : endAt ns f m with
  | none => rw [he] at k; exact .inl ⟨rfl, k⟩
  | some e =>
    rw [he] at k
    refine .inr ⟨e, rfl, ?_⟩
    have kw : (e : Int) ≤ wi ns m f := by
      obtain ⟨_, k2, k3, _⟩ := endAt_just hf (show 0 ≤ m by omega) he
      obtain ⟨_, h2, _, h4⟩ := (just_iff (ns := ns) (m := m) (f := f) (b := e) (by have := endAt_pos hf h1 he; omega) k2 (by omega)).mp k3
      exact h4
    have k' : endsJ ns m f (ns.length - f) = (List.range ((wi ns m f - e).toNat + 1)).map fun (k : Nat) => (e : Int) + (k : Int) := by
      refine k.trans ?_
      show List.map _ (List.range _) = _
      congr 2
      omega
    rw [k', List.length_map, List.length_range]
    refine ⟨by omega, ?_, ?_⟩
    · rw [List.getD_eq_getElem?_getD, List.getElem?_map, List.getElem?_range (by omega)]
      show (e : Int) + ((0 : Nat) : Int) = e
      omega
    · rw [List.getD_eq_getElem?_getD, List.getElem?_map, List.getElem?_range (by omega)]
      show (e : Int) + (((wi ns m f - e).toNat + 1 - 1 : Nat) : Int) = wi ns m f
      omega
theorem at_m1 {es : List Int} {x : Int} (h1 : 0 < es.length) (h3 : es.getD (es.length - 1) 0 = x) : atI (es.map V.int) (-1) = some (V.int x) := by
  rcases List.eq_nil_or_concat es with rfl | ⟨es', y, e5⟩
  · exact absurd h1 (by decide)
  · rw [List.concat_eq_append] at e5
    subst e5
    have h4 : (es' ++ [y]).length - 1 = es'.length := by rw [List.length_append]; exact Nat.add_sub_cancel ..
    rw [h4, List.getD_eq_getElem?_getD, List.getElem?_append_right (Nat.le_refl _), Nat.sub_self] at h3
    have h5 : y = x := h3
    rw [List.map_append, ← h5]
    exact atI_last _ _
/-- with no number asked for: none -/
theorem endsJ_zero {ns : List Int} {f j : Nat} (h : f + j ≤ ns.length) : endsJ ns 0 f j = [] := by
  induction j with
  | zero => rfl
  | succ j ih =>
    have w1 := wunN_monoF (ns := ns) (b := f + (j + 1)) h (k := j) (f := f) (by omega)
    have w2 := wunN_up (ns := ns) (f := f + j) (b := f + j) (Nat.le_refl _) (by omega)
    rw [if_pos (by have := (lastAt_range ns (ns.getD (f + j) 0) (f + j)).2; omega), Nat.add_assoc] at w2
    rw [endsJ_s, ih (by omega), if_neg (by omega)]
    rfl
/-- a held pair of two lists that tell the same; neither is the place c -/
structure HelT (H : Hp) (c p : Addr) : Prop where
  ex : ∃ (f e : Addr) (fs es : List Addr) (ps : List (Int × Int × Int)), H p = some (.tup [.ref f, .ref e]) ∧ H f = some (.lst (fs.map V.ref)) ∧ TripsF H fs ps ∧ H e = some (.lst (es.map V.ref)) ∧ TripsF H es ps ∧ f ≠ c ∧ e ≠ c
theorem HelT.but {H H' : Hp} {c p : Addr} {xs : List V} (k : HelT H c p) (hc : H c = some (.lst xs)) (b : But c H H') : HelT H' c p := by
  obtain ⟨f, e, fs, es, ps, h1, h2, h3, h4, h5, h6, h7⟩ := k.ex
  exact ⟨f, e, fs, es, ps, b _ _ (fun z => by rw [z, hc] at h1; cases h1) h1, b _ _ h6 h2, ObjsF.but h3 b (TripsF.offL h3 hc).out, b _ _ h7 h4, ObjsF.but h5 b (TripsF.offL h5 hc).out, h6, h7⟩
theorem HelT.same {H H' : Hp} {c p : Addr} (k : HelT H c p) (s : Same H H') : HelT H' c p := by
  obtain ⟨f, e, fs, es, ps, h1, h2, h3, h4, h5, h6, h7⟩ := k.ex
  exact ⟨f, e, fs, es, ps, s _ _ h1, s _ _ h2, ObjsF.same h3 s, s _ _ h4, ObjsF.same h5 s, h6, h7⟩
end Ur

/-! sorted(set(xs)), xs a list of ints -/
namespace UrS
open PySem PySem.Spec PyProof.Rows L2
section
variable {P : Program} {w : World} {A : Around} {E : Value → Shared → Prop} {s : Shared}
/-- a set object just made -/
abbrev newSet (w : World) : Obj := { cls := .type "set", dict := none, data := .set #[] 0 (.fresh 0 0 (!w.params.followText "set-order")) }
set_option maxRecDepth 100000 in
set_option maxHeartbeats 3200000 in
theorem set_of_list {l : Addr} {items : Array Value} (ns : List Int) {Q : Value → Shared → Prop} (hh : A.handled = none) (hl : s.heap.IsList l items) (hit : IntsAre items.toList ns) (hb : ns.length + 1 < scanBound)
    (h : ∀ (h' : Heap) (tk c : Nat), SetR w h' s.heap.objs.size (fun j => decide (j ∈ ns)) c → c ≤ ns.length → (∀ b o, s.heap.get? b = some o → h'.get? b = some o) → Q (.ref s.heap.objs.size) { s with heap := h', toks := tk }) :
    wpAny (model P w) A (call (.type "set") [.ref l]) Q E s := by
  have hisz : items.size = ns.length := by
    rw [← Array.length_toList]; exact IntsAre.length hit
  obtain ⟨c, tl, hmro⟩ := F.called_set.mro
  have hmade := F.called_set.made
  have hsub := F.called_set.sub
  refine wpAny_call (codeAny_of_tree ?_)
  show wpAny _ _ (callAny (.type "set") _) _ _ _
  refine wpAny_pure ⟨Code.quiet_builtin _ (by decide +kernel), codeAny_builtin F.entry_type_call ?_⟩
  rw [Around.under_plain (weight_type_call_type "set" [.ref l] []) rfl]
  have h1 := F.called_set.notType
  have h2 := F.called_set.canCreate
  have hct := F.typeCall_set_1 (.ref l)
  repeat (any_goals (first | assumption | wp_step))
  refine codeAny_mono (code_set_led1 (.ref l) (E := E) (Q₁ := fun obj s₁ => obj = .ref s.heap.objs.size ∧ s₁ = { s with heap := s.heap.push (newSet w) }) ⟨rfl, rfl⟩) fun r s₁ hr => ?_
  cases r with
  | error e => exact hr
  | ok fl =>
    cases fl with
    | ret obj =>
      obtain ⟨rfl, rfl⟩ := hr
      have hS : (s.heap.push (newSet w)).get? s.heap.objs.size = some (newSet w) := Heap.get?_push_size _ rfl
      have hT : Shared.TypeIs { s with heap := s.heap.push (newSet w) } (.ref s.heap.objs.size) "set" := ⟨_, hS, rfl⟩
      have hli := F.called_set.init.lookup
      have hbi := F.called_set.init.bind (.ref s.heap.objs.size)
      repeat (any_goals (first | assumption | wp_step))
      refine codeAny_mono (codeAny_call_builtin (R := wants (fun r s₂ => r = .none ∧ ∃ h' tk c, s₂ = { s with heap := h', toks := tk } ∧ SetR w h' s.heap.objs.size (fun j => decide (j ∈ ns)) c ∧ c ≤ ns.length ∧
          (∀ b o, s.heap.get? b = some o → h'.get? b = some o)) E) F.called_set.init.plain F.entry_set_init (check_set_init_1 hT ?_)) fun r₂ s₂ hr₂ => ?_
      · have hlS : l < s.heap.objs.size := by obtain ⟨ol, hol, _⟩ := hl; exact Heap.lt_size hol
        obtain ⟨ol, hol, hcl, nl, hdl⟩ := hl
        obtain ⟨ocls, odict, odata, oslots⟩ := ol
        simp only at hcl hdl
        subst hcl; subst hdl
        have hol' : (s.heap.push (newSet w)).get? l = some { cls := .type "list", dict := odict, data := .seq items nl, slots := oslots } := Heap.get?_push_of_some _ hol
        have hsls := F.sub_list_set
        have hslf := F.sub_list_frozenset
        have hne : (Value.type "list" == Value.type "dict") = false := by decide
        have hl1 : (s.heap.push (newSet w)).IsList l items := ⟨_, hol', rfl, nl, rfl⟩
        unfold Builtin.«set.__init__» noKeywords Builtin.Frozenset.updateFrom
        generalize hPI : pyIter = PI
        wp_walk
        subst hPI
        refine wpAny_pyIter_list hl1 ?_
        refine wpAny_bind (wpAny_runValue ?_)
        have hh3 : A.in1.in1.in1.handled = none := by simp [hh]
        have hneI : l ≠ (s.heap.push (newSet w)).objs.size := by
          rw [Heap.size_push]; exact Nat.ne_of_lt (Nat.lt_succ_of_lt hlS)
        have hSf : s.heap.objs.size ∉ [(s.heap.push (newSet w)).objs.size, l] := by
          rw [Heap.size_push]; simp only [List.mem_cons, List.not_mem_nil, or_false, not_or]
          exact ⟨Nat.ne_of_lt (Nat.lt_succ_self _), Nat.ne_of_gt hlS⟩
        have hval : ∀ (i : Nat) (v : Value), items[i]? = some v → ∃ k t, ns[i]? = some k ∧ v = .int k t := fun i v hv => by
          have hi : i < ns.length := by rw [← hisz]; exact (Array.getElem?_eq_some_iff.mp hv).1
          obtain ⟨t, e⟩ := PyProof.Rows.IntsAre.int_at hit i v (by rw [Array.getElem?_toList]; exact hv)
          refine ⟨ns[i], t, List.getElem?_eq_getElem hi, ?_⟩
          rw [e, List.getD_eq_getElem?_getD, List.getElem?_eq_getElem hi] <;> rfl
        refine set_update_ints ((Walks.list hh3 _ l hneI items).toS) s.heap.objs.size
          hSf ns hisz hb hval (items.size - 0) 0 _ (by omega) (Nat.zero_le _)
          ⟨⟨_, Heap.get?_push_size _ rfl, rfl, rfl⟩, (hl1.push _)⟩ ⟨0, Nat.le_refl 0, setR_new_at (Heap.get?_push_of_some _ hS)⟩ ?hR
        intro s' c' hm hc' hS'
        obtain ⟨h', g2, d', tk', os'⟩ := s'
        have eg : g2 = s.gens := hm.gens
        have ed : d' = s.drawn := hm.drawn
        have eo : os' = s.os := hm.os
        subst eg; subst ed; subst eo
        show wpAny _ _ _ _ _ _
        refine wpAny_pure ?_
        show wpAny _ _ (ret Value.none) _ _ _
        rw [hisz] at hc'
        refine wpAny_pure ⟨rfl, h', tk', c', rfl, hS', hc', fun b o e => ?_⟩
        have hb0 : b < s.heap.objs.size := Heap.lt_size e
        refine hm.heap b o ?_ (Heap.get?_push_of_some _ (Heap.get?_push_of_some _ e))
        simp only [List.mem_cons, List.not_mem_nil, or_false, not_or]
        exact ⟨Nat.ne_of_lt hb0, by rw [Heap.size_push]; exact Nat.ne_of_lt (Nat.lt_succ_of_lt hb0)⟩
      · cases r₂ with
        | error e => exact hr₂
        | ok fl₂ =>
          cases fl₂ with
          | ret r =>
            obtain ⟨rfl, h', tk, c', rfl, hS', hc', hk'⟩ := hr₂
            repeat (any_goals (first | assumption | wp_step))
            exact h _ _ _ hS' hc' hk'
          | _ => exact hr₂.elim
    | _ => exact hr.elim
theorem sorted_any {S : Int → Bool} {n : Nat} {a : Addr} {Q : Value → Shared → Prop} (R : SetR w s.heap a S n) (hh : A.handled = none)
    (hQ : ∀ s' p (out : Array Value) (c : Nat) (ns : List Int), (∀ b o, s.heap.get? b = some o → s'.heap.get? b = some o) → s'.gens = s.gens → s'.os = s.os → s.heap.objs.size ≤ p →
      s'.heap.get? p = some (seqObj "list" out c) → IntsAre out.toList ns → ns.Pairwise (· < ·) → (∀ k, k ∈ ns ↔ S k = true) → ns.length = n → Q (.ref p) s') :
    wpAny (model P w) A (call (.builtin "sorted") [.ref a]) Q E s := by
  obtain ⟨o, es, ep, t, ho, hex, hd, g, nd, hm, hb, hf, hn, hr, hl⟩ := R
  refine Calls.call_function_entry kind_sorted plain_sorted entry_sorted (args_sorted1 _) ?_
  unfold Builtin.«sorted»
  refine wpAny_bind (m := checkCount "sorted" 1 1 _) (wpAny_pure ?_)
  refine wpAny_bind (collect_set (A := A.in1) hh ⟨o, ho, hex.1, hd⟩ hf hb hr hl fun s1 vs k1 hz g1 o1 pm => ?_)
  have hvl : vs.length = es.size := by rw [pm.length_eq, List.length_map, Array.length_toList]
  have hvz : vs.length ≤ sizeLine := by rw [hvl, sizeLine_eq]; unfold scanBound at hb; omega
  have hI : IntsAre vs (vs.map Builtin.Re.reRawOf) := ints_of vs fun v hv => by
    obtain ⟨e, he, q⟩ := List.mem_map.mp (pm.mem_iff.mp hv)
    obtain ⟨k, tk, h1, _⟩ := g e he
    exact ⟨k, tk, by rw [← q]; exact h1⟩
  have pk : (vs.map Builtin.Re.reRawOf).Perm (es.toList.map keyOf) := by
    have q := pm.map Builtin.Re.reRawOf
    rw [List.map_map] at q
    exact q
  refine wpAny_bind (wpAny_newList ?_ hvz)
  have hoL : (s1.heap.push (seqObj "list" vs.toArray 0)).get? s1.heap.objs.size = some (seqObj "list" vs.toArray 0) := Heap.get?_push_size _ rfl
  refine wpAny_bind (wpAny_holding (wpAny_call_entry slot_list_sort ⟨_, hoL, rfl⟩ entry_list_sort (SrtO.list_sort_ord SrtO.swo_int hoL hvz (fun h2 => SrtO.ints_sortable hI h2) fun out h1 h2 => ⟨_, rfl, ?_⟩) (args_list_sort _)))
  obtain ⟨a1, a2, a3⟩ := SrtO.ints_out hI h1 h2
  obtain ⟨c, hc⟩ := sortedHeap_at (vs := vs) (out := out.toArray) hoL
  have pn := a2.trans pk
  refine wpAny_pure ⟨_, rfl, hQ _ s1.heap.objs.size out.toArray c _ (fun b u e => ?_) g1 o1 hz hc a1 (lt_of_le_nodup _ a3 (pn.nodup_iff.mpr nd)) (fun k => by rw [pn.mem_iff, ← hm k]) ?_⟩
  · have q := k1 b u e
    have hlt := Heap.lt_size q
    show (sortedHeap (s1.heap.push (seqObj "list" vs.toArray 0)) s1.heap.objs.size vs out.toArray).get? b = some u
    rw [sortedHeap_old (Nat.ne_of_lt hlt) (by rw [size_push']; exact Nat.lt_succ_of_lt hlt)]
    exact Heap.get?_push_of_some _ q
  · rw [pn.length_eq, List.length_map, Array.length_toList]; exact hn
end
end UrS
namespace UrS
open PySem PySem.Spec PyProof.Rows L2
/-! ### sorted(set(xs)) as one rule -/
def tSortSet (K : PySem.W.Frag) (ta : TE) : TE := fun σ H Q => ta σ H fun x H1 => ∃ (l : Addr) (ns : List Int), x = .ref l ∧ SqL K H1 l (ns.map V.int) ∧ ns.length ≤ 4000 ∧ ∀ (ns' : List Int) (p : Addr), ns'.Pairwise (· < ·) → (∀ k : Int, k ∈ ns' ↔ k ∈ ns) → H1 p = none → Q (.ref p) (upd H1 p (.lst (ns'.map V.int)))
theorem pe_sortSet {X : Cx} {K : PySem.W.Frag} {a : Expr} {ta : TE} {p p2 q pos : Pos} (hk : X.K = K) (hg : Gl X "sorted") (hm : X.mg "sorted" = none) (hg2 : Gl X "set") (hm2 : X.mg "set" = none) (ha : PE X a ta) (hc : X.calm = true := by rfl)
    (na : starEach [a] X.env = (false, eval a X.env) :: starEach [] X.env := by rfl) : PE X (.Call (.Name "sorted" p) [.Call (.Name "set" p2) [a] [] q] [] pos) (tSortSet K ta) := by
  subst hk
  refine ⟨fun pins s σ H Q I h => ?_⟩
  refine Call_ (ld_blt I hg hm (show bootBuiltins (Str.ofString "sorted") = some (.builtin "sorted") from by decide +kernel) ?_)
  refine PyProof.Rows.callWith_builtin1 (PyProof.Rows.args_cons ?_ rfl) rfl rfl
  refine Call_ (ld_blt I hg2 hm2 boot_set ?_)
  refine PyProof.Rows.callWith_type1 (PyProof.Rows.args_cons (thn (ha.run pins s σ H _ I h) fun v s1 ⟨x, H1, I1, r1, q1⟩ => PyProof.Rows.args_nil ?_) na) na rfl
  obtain ⟨l, ns, rfl, hq, hl, q1⟩ := q1
  cases r1
  obtain ⟨its, r, pl, hz⟩ := I1.list hq
  have hi : IntsAre its ns := RZ.intsAre_vals r
  refine set_of_list ns (I1.ok.hd hc) pl.isList (by simpa using hi) (by unfold scanBound; omega) fun h' tk c hS hc' hk => ?_
  refine PyProof.Rows.args_nil ?_
  have I2 : Inv X pins σ H1 { s1 with heap := h', toks := tk } := I1.kept hk
  have hS2 : SetR X.w ({ s1 with heap := h', toks := tk } : Shared).heap s1.heap.objs.size (fun j => decide (j ∈ ns)) c := hS
  clear hS
  generalize ({ s1 with heap := h', toks := tk } : Shared) = s2 at I2 hS2 ⊢
  refine sorted_any hS2 (I1.ok.hd hc) fun s' p out c2 ns' k g o hp hg3 hi3 hs3 hm3 hl3 => ?_
  have hlen : (ns'.map V.int).length ≤ sizeLine := by rw [List.length_map, hl3, sizeLine_eq]; omega
  have hn : H1 p = none := I2.hok.fresh hp
  have J : Inv X pins σ (upd H1 p (.lst (ns'.map V.int))) { s2 with heap := s'.heap, gens := s'.gens, drawn := s'.drawn, toks := s'.toks } :=
    I2.call (ch := []) (Un.laid k hp hn) (I2.hok.laid k hp ⟨hlen, out.toList, c2, vals_of_ints hi3, hg3⟩) (by rw [g]; exact I2.bare) (fun _ z => nomatch z)
  have e : s' = { s2 with heap := s'.heap, gens := s'.gens, drawn := s'.drawn, toks := s'.toks } := by
    cases s'
    cases s2
    cases o
    rfl
  rw [e]
  exact ⟨.ref p, _, J, rfl, q1 ns' p hs3 (fun k => by rw [hm3]; exact decide_eq_true_iff) hn⟩
end UrS

namespace Ur
open PySem L2
/-! ### windows side by side -/
theorem ulen_is {A ms : List Int} (nd : ms.Nodup) (h : ∀ x, x ∈ ms ↔ x ∈ A) : ms.length = ulen A :=
  ((List.perm_ext_iff_of_nodup nd (uni_nodup A)).mpr fun x => (h x).trans (mem_uni A x).symm).length_eq
theorem filter_two (t : Int → Bool) : ∀ ms : List Int, (ms.filter t).length + (ms.filter fun x => !t x).length = ms.length
  | [] => rfl
  | x :: ms => by
    have ih := filter_two t ms
    cases h : t x <;> simp [List.filter_cons, h] <;> omega
/-- those in both are as many as the two have more than the whole -/
theorem ulen_both {A B ms : List Int} (nd : ms.Nodup) (h : ∀ x, x ∈ ms ↔ x ∈ A) : (ms.filter fun x => decide (x ∈ B)).length + ulen (A ++ B) = ulen A + ulen B := by
  have h1 := ulen_is nd h
  have h2 := filter_two (fun x => decide (x ∈ B)) ms
  have h3 : ((ms.filter fun x => !decide (x ∈ B)) ++ uni B).length = ulen (A ++ B) := by
    refine ulen_is ?_ fun x => ?_
    · rw [List.nodup_append]
      refine ⟨nd.filter _, uni_nodup B, fun a ha b hb e => ?_⟩
      rw [List.mem_filter] at ha
      rw [← e, mem_uni] at hb
      simp [hb] at ha
    · rw [List.mem_append, List.mem_append, List.mem_filter, mem_uni, h]
      by_cases hb : x ∈ B
      · simp [hb]
      · simp [hb]
  rw [List.length_append] at h3
  have h4 : (uni B).length = ulen B := rfl
  omega
theorem win_join {ns : List Int} {f a b : Nat} (h1 : f ≤ a) (h2 : a ≤ b) : (ns.drop f).take (a - f) ++ (ns.drop a).take (b - a) = (ns.drop f).take (b - f) := by
  have e : (ns.drop a) = (ns.drop f).drop (a - f) := by rw [List.drop_drop, show f + (a - f) = a from by omega]
  rw [e, show b - f = (a - f) + (b - a) from by omega, List.take_add]
theorem wun_both {ns ms : List Int} {f a b : Int} (h0 : 0 ≤ f) (h1 : f ≤ a) (h2 : a ≤ b) (nd : ms.Nodup) (h : ∀ x, x ∈ ms ↔ x ∈ (ns.drop f.toNat).take (a.toNat - f.toNat)) :
    ((ms.filter fun x => decide (x ∈ (ns.drop a.toNat).take (b.toNat - a.toNat))).length : Int) = (wun ns f a : Int) + (wun ns a b : Int) - (wun ns f b : Int) := by
  have k := ulen_both (B := (ns.drop a.toNat).take (b.toNat - a.toNat)) nd h
  rw [win_join (by omega) (by omega)] at k
  have e1 : ulen ((ns.drop f.toNat).take (a.toNat - f.toNat)) = wun ns f a := rfl
  have e2 : ulen ((ns.drop a.toNat).take (b.toNat - a.toNat)) = wun ns a b := rfl
  have e3 : ulen ((ns.drop f.toNat).take (b.toNat - f.toNat)) = wun ns f b := rfl
  omega
theorem wun_parts {ns : List Int} {f a b : Int} (h0 : 0 ≤ f) (h1 : f ≤ a) (h2 : a ≤ b) (h3 : b ≤ ns.length) : wun ns f a ≤ wun ns f b ∧ wun ns a b ≤ wun ns f b := by
  rw [wun_N, wun_N, wun_N]
  constructor
  · have := wunN_monoB (ns := ns) (f := f.toNat) (k := b.toNat - a.toNat) (b := a.toNat) (by omega) (by omega)
    rwa [show a.toNat + (b.toNat - a.toNat) = b.toNat from by omega] at this
  · have := wunN_monoF (ns := ns) (b := b.toNat) (by omega) (k := a.toNat - f.toNat) (f := f.toNat) (by omega)
    rwa [show f.toNat + (a.toNat - f.toNat) = a.toNat from by omega] at this
/-- one place more behind -/
theorem wun_more {ns : List Int} {f b : Int} (h0 : 0 ≤ f) (h1 : f ≤ b) (h2 : b < ns.length) :
    (wun ns f (b + 1) : Int) - (wun ns f b : Int) = if (!decide (ns.getD b.toNat 0 ∈ (ns.drop f.toNat).take (b.toNat - f.toNat))) = true then 1 else 0 := by
  rw [wun_N, wun_N, show (b + 1).toNat = b.toNat + 1 from by omega, wunN_up (by omega) (by omega)]
  have k := last_in (ns := ns) (f := f.toNat) (k := b.toNat - f.toNat) (by omega)
  rw [show f.toNat + (b.toNat - f.toNat) = b.toNat from by omega] at k
  by_cases h : lastAt ns b.toNat (ns.getD b.toNat 0) < (f.toNat : Int)
  · rw [if_pos h, if_pos (by rw [decide_eq_false (fun z => k.mp z h)]; rfl)]; omega
  · rw [if_neg h, if_neg (by rw [decide_eq_true (k.mpr h)]; decide)]; omega
/-- one place more ahead -/
theorem wun_ahead {ns : List Int} {f b : Int} (h0 : 0 < f) (h1 : f ≤ b) (h2 : b ≤ ns.length) :
    (wun ns (f - 1) b : Int) - (wun ns f b : Int) = if (!decide (ns.getD (f - 1).toNat 0 ∈ (ns.drop f.toNat).take (b.toNat - f.toNat))) = true then 1 else 0 := by
  have e : (ns.drop (f - 1).toNat).take (b.toNat - (f - 1).toNat) = ns.getD (f - 1).toNat 0 :: (ns.drop f.toNat).take (b.toNat - f.toNat) := by
    have hd : (f - 1).toNat < ns.length := by omega
    rw [List.drop_eq_getElem_cons hd, show b.toNat - (f - 1).toNat = (b.toNat - f.toNat) + 1 from by omega, List.take_succ_cons, show (f - 1).toNat + 1 = f.toNat from by omega]
    rw [List.getD_eq_getElem?_getD, List.getElem?_eq_getElem hd]; rfl
  have e1 : wun ns (f - 1) b = ulen (ns.getD (f - 1).toNat 0 :: (ns.drop f.toNat).take (b.toNat - f.toNat)) := by rw [← e]; rfl
  rw [e1, ulen_cons]
  have e2 : wun ns f b = ulen ((ns.drop f.toNat).take (b.toNat - f.toNat)) := rfl
  rw [e2]
  by_cases h : ns.getD (f - 1).toNat 0 ∈ (ns.drop f.toNat).take (b.toNat - f.toNat)
  · rw [if_pos h, if_neg (by rw [decide_eq_true h]; decide)]; omega
  · rw [if_neg h, if_pos (by rw [decide_eq_false h]; rfl)]; omega
/-- first places of the whole -/
theorem firP_join {ns : List Int} {f a b : Int} (h0 : 0 ≤ f) (h1 : f ≤ a) (h2 : a ≤ b) (h3 : b ≤ ns.length) :
    firP ns f b = firP ns f a ++ (firP ns a b).filter fun x => !decide (ns.getD x.toNat 0 ∈ (ns.drop f.toNat).take (a.toNat - f.toNat)) := by
  unfold firP
  rw [show (b - f).toNat = (a - f).toNat + (b - a).toNat from by omega, List.range_add, List.filter_append, List.map_append]
  congr 1
  rw [List.filter_map, List.map_map, List.filter_map, List.filter_filter]
  have e : ((List.range (b - a).toNat).filter ((fun k => decide (lp ns (f.toNat + k) < f)) ∘ fun x => (a - f).toNat + x)) = (List.range (b - a).toNat).filter fun k => ((fun x => !decide (ns.getD x.toNat 0 ∈ (ns.drop f.toNat).take (a.toNat - f.toNat))) ∘ fun (k : Nat) => a + (k : Int)) k && decide (lp ns (a.toNat + k) < a) := by
    refine List.filter_congr fun k hk => ?_
    rw [List.mem_range] at hk
    show decide (lp ns (f.toNat + ((a - f).toNat + k)) < f) = (!decide (ns.getD (a + (k : Int)).toNat 0 ∈ (ns.drop f.toNat).take (a.toNat - f.toNat)) && decide (lp ns (a.toNat + k) < a))
    rw [show f.toNat + ((a - f).toNat + k) = a.toNat + k from by omega, show (a + (k : Int)).toNat = a.toNat + k from by omega]
    have k1 := last_in (ns := ns) (f := f.toNat) (k := a.toNat + k - f.toNat) (by omega)
    have k2 := last_in (ns := ns) (f := a.toNat) (k := k) (by omega)
    rw [show f.toNat + (a.toNat + k - f.toNat) = a.toNat + k from by omega, ← win_join (a := a.toNat) (by omega) (by omega), show a.toNat + k - a.toNat = k from by omega, List.mem_append] at k1
    have e1 : lp ns (a.toNat + k) = lastAt ns (a.toNat + k) (ns.getD (a.toNat + k) 0) := rfl
    rw [← e1] at k1 k2
    rw [show ((f.toNat : Nat) : Int) = f from by omega] at k1
    rw [show ((a.toNat : Nat) : Int) = a from by omega] at k2
    by_cases g1 : ns.getD (a.toNat + k) 0 ∈ (ns.drop f.toNat).take (a.toNat - f.toNat)
    · have := k1.mp (.inl g1)
      rw [decide_eq_true g1, decide_eq_false this]; rfl
    · by_cases g2 : lp ns (a.toNat + k) < a
      · have g3 : ¬ ¬ lp ns (a.toNat + k) < f := fun z => by
          rcases k1.mpr z with z | z
          · exact g1 z
          · exact k2.mp z g2
        have g4 := Decidable.of_not_not g3
        rw [decide_eq_false g1, decide_eq_true g2, decide_eq_true g4]; rfl
      · have g4 := k1.mp (.inr (k2.mpr g2))
        rw [decide_eq_false g1, decide_eq_false g2, decide_eq_false g4]; rfl
  rw [e]
  refine List.map_congr_left fun k _ => ?_
  show f + (((a - f).toNat + k : Nat) : Int) = a + (k : Int)
  omega
theorem firP_in {ns : List Int} {f b x : Int} (h : x ∈ firP ns f b) : f ≤ x ∧ x < b := by
  unfold firP at h
  obtain ⟨k, hk, rfl⟩ := List.mem_map.mp h
  have := List.mem_range.mp (List.mem_filter.mp hk).1
  omega
end Ur

namespace Ur
open PySem L2
/-! ### rows, last places, next places, plain rows go together -/
theorem last_of_next {r : List Int} {v i : Nat} (hv : v < r.length) (hi : i < r.length) (h : nx r v = i) : lp r i = v := by
  rcases nextUp_spec r v r.length (Nat.le_refl _) with ⟨a1, _⟩ | ⟨u, a1, a2, a3, a4, a5⟩
  · have h2 : nextUp r v r.length = i := h
    omega
  · have h2 : nextUp r v r.length = i := h
    have e : u = i := by omega
    subst e
    refine lastAt_uniq (.inr ⟨v, rfl, a2, a4.symm⟩) fun j hj hx => ?_
    by_cases hk : v < j
    · exact absurd (hx.trans a4) (a5 j hk hj)
    · omega
theorem lp_iff_nx {r : List Int} {v i : Nat} (hv : v < r.length) (hi : i < r.length) : lp r i = v ↔ nx r v = i := by
  refine ⟨fun h => ?_, last_of_next hv hi⟩
  have k := next_of_last (r := r) hi (by omega)
  rwa [show (lp r i).toNat = v from by omega] at k
theorem lp_ext {r s : List Int} (hl : r.length = s.length) (h : ∀ i, i < r.length → lp r i = lp s i) : lastP r = lastP s :=
  ext_getD (by rw [lastP_len, lastP_len, hl]) fun i hi => by
    rw [lastP_len] at hi
    rw [lastP_getD hi, lastP_getD (by omega), h i hi]
theorem nx_ext {r s : List Int} (hl : r.length = s.length) (h : ∀ i, i < r.length → nx r i = nx s i) : nextP r = nextP s :=
  ext_getD (by rw [nextP_len, nextP_len, hl]) fun i hi => by
    rw [nextP_len] at hi
    rw [nextP_getD hi, nextP_getD (by omega), h i hi]
theorem lp_eq {r s : List Int} (h : lastP r = lastP s) {i : Nat} (hi : i < r.length) : lp r i = lp s i := by
  have hl : r.length = s.length := by rw [← lastP_len, h, lastP_len]
  rw [← lastP_getD hi, h, lastP_getD (by omega)]
theorem nx_eq {r s : List Int} (h : nextP r = nextP s) {i : Nat} (hi : i < r.length) : nx r i = nx s i := by
  have hl : r.length = s.length := by rw [← nextP_len, h, nextP_len]
  rw [← nextP_getD hi, h, nextP_getD (by omega)]
theorem nx_gt {r : List Int} {k : Nat} (hk : k < r.length) : nx r k = r.length ∨ ∃ i : Nat, k < i ∧ i < r.length ∧ nx r k = i := by
  rcases nextUp_spec r k r.length (Nat.le_refl _) with ⟨a1, _⟩ | ⟨u, a1, a2, a3, _⟩
  · exact .inl a1
  · exact .inr ⟨u, a2, a3, a1⟩
theorem next_of_lasts {r s : List Int} (h : lastP r = lastP s) : nextP r = nextP s := by
  have hl : r.length = s.length := by rw [← lastP_len, h, lastP_len]
  refine nx_ext hl fun k hk => ?_
  rcases nx_gt hk with e | ⟨i, h1, h2, e⟩
  · rcases nx_gt (r := s) (k := k) (by omega) with e' | ⟨i, h1, h2, e'⟩
    · rw [e, e', hl]
    · have k1 := (lp_iff_nx (r := s) (by omega) h2).mpr e'
      rw [← lp_eq h (by omega)] at k1
      rw [(lp_iff_nx hk (by omega)).mp k1, e']
  · have k1 := (lp_iff_nx hk h2).mpr e
    rw [lp_eq h h2] at k1
    rw [(lp_iff_nx (by omega) (by omega)).mp k1, e]
theorem lasts_of_next {r s : List Int} (h : nextP r = nextP s) : lastP r = lastP s := by
  have hl : r.length = s.length := by rw [← nextP_len, h, nextP_len]
  refine lp_ext hl fun i hi => ?_
  have r1 := lp_range r i
  have r2 := lp_range s i
  by_cases h1 : 0 ≤ lp r i
  · have k1 := (lp_iff_nx (r := r) (v := (lp r i).toNat) (by omega) hi).mp (by omega)
    rw [nx_eq h (i := (lp r i).toNat) (by omega)] at k1
    have k2 := (lp_iff_nx (r := s) (v := (lp r i).toNat) (i := i) (by omega) (by omega)).mpr k1
    omega
  · by_cases h2 : 0 ≤ lp s i
    · have k1 := (lp_iff_nx (r := s) (v := (lp s i).toNat) (i := i) (by omega) (by omega)).mp (by omega)
      rw [← nx_eq h (i := (lp s i).toNat) (by omega)] at k1
      have k2 := (lp_iff_nx (r := r) (v := (lp s i).toNat) (i := i) (by omega) (by omega)).mpr k1
      omega
    · omega
theorem plainP_getD {r : List Int} {i : Nat} (hi : i < r.length) : (plainP r).getD i 0 = (plainAt r (r.getD i 0) : Int) := by
  unfold plainP
  rw [List.getD_eq_getElem?_getD, List.getElem?_map, get_of hi]
  rfl
theorem plain_of_lasts {r s : List Int} (h : lastP r = lastP s) : plainP r = plainP s := by
  have hl : r.length = s.length := by rw [← lastP_len, h, lastP_len]
  have k : ∀ n i, i < n → i < r.length → (plainP r).getD i 0 = (plainP s).getD i 0 := by
    intro n
    induction n with
    | zero => intro i h; omega
    | succ n ih =>
      intro i hn hi
      have e := lp_eq h hi
      by_cases h1 : lp r i < 0
      · have a1 := (last_new hi).mp h1
        have a2 := (last_new (r := s) (i := i) (by omega)).mp (by have : lp s i < 0 := by omega
                                                                  exact this)
        have b1 : r.idxOf (r.getD i 0) = i := idx_first (get_of hi) a1
        have b2 : s.idxOf (s.getD i 0) = i := idx_first (get_of (by omega)) a2
        rw [plainP_getD hi, plainP_getD (by omega)]
        unfold plainAt
        rw [b1, b2, ← count_news, ← count_news, lastP_takeR, lastP_takeR, h]
      · have g : ∀ t : List Int, i < t.length → ¬ lp t i < 0 → (lp t i).toNat < i ∧ t.getD (lp t i).toNat 0 = t.getD i 0 := fun t ht hn => by
          rcases lastAt_spec t (t.getD i 0) i with ⟨c1, _⟩ | ⟨v, c1, c2, c3, _⟩
          · exact absurd (show lp t i < 0 by have : lp t i = -1 := c1
                                             omega) hn
          · have c4 : lp t i = v := c1
            rw [c4, Int.toNat_natCast]
            exact ⟨c2, c3⟩
        obtain ⟨g1, g2⟩ := g r hi h1
        obtain ⟨g3, g4⟩ := g s (by omega) (by omega)
        have ihv := ih (lp r i).toNat (by omega) (by omega)
        rw [plainP_getD (by omega), plainP_getD (by omega), g2, e, g4] at ihv
        rw [plainP_getD hi, plainP_getD (by omega), ihv]
  exact ext_getD (by rw [plainP_len, plainP_len, hl]) fun i hi => k (i + 1) i (Nat.lt_succ_self i) (by rw [plainP_len] at hi; exact hi)
theorem lasts_of_plain {r s : List Int} (h : plainP r = plainP s) : lastP r = lastP s := by
  rw [← lastP_plain r, h, lastP_plain]
theorem dec_lasts (r s : List Int) : decide (lastP r = lastP s) = decide (plainP r = plainP s) := decide_eq_decide.mpr ⟨plain_of_lasts, lasts_of_plain⟩
theorem dec_nexts (r s : List Int) : decide (nextP r = nextP s) = decide (plainP r = plainP s) := decide_eq_decide.mpr ⟨fun h => plain_of_lasts (lasts_of_next h), fun h => next_of_lasts (lasts_of_plain h)⟩
theorem nextP_map {f : Int → Int} {r : List Int} (h : InjOn f r) : nextP (r.map f) = nextP r := next_of_lasts (lastP_map h)
/-! ### numbers called otherwise, by their order -/
def cal5 (ss : List Int) (k : Int) (z : Int) : Int := [0 - z, 10 ^ Int.toNat 20 - (ss.idxOf z : Int), ((ss.idxOf z : Int) * 7 + 3) % 997 - 500].getD k.toNat 0
theorem cal5_inj {ss : List Int} {k : Int} (h0 : 0 ≤ k) (h1 : k < 3) (hl : ss.length ≤ 300) : InjOn (cal5 ss k) ss := by
  intro x hx y hy e
  have ix := idx_lt hx
  have iy := idx_lt hy
  have g : ss.idxOf x = ss.idxOf y → x = y := fun e => by
    have a := idx_get hx
    rw [e, idx_get hy] at a
    injection a with a
    exact a.symm
  have hk : k = 0 ∨ k = 1 ∨ k = 2 := by omega
  rcases hk with rfl | rfl | rfl
  · have e2 : (0 : Int) - x = 0 - y := e
    omega
  · have e2 : (10 : Int) ^ Int.toNat 20 - (ss.idxOf x : Int) = 10 ^ Int.toNat 20 - (ss.idxOf y : Int) := e
    generalize (10 : Int) ^ Int.toNat 20 = t at e2
    exact g (by omega)
  · have e2 : ((ss.idxOf x : Int) * 7 + 3) % 997 - 500 = ((ss.idxOf y : Int) * 7 + 3) % 997 - 500 := e
    exact g (by omega)
theorem nodup_of_lt {ss : List Int} (h : ss.Pairwise (· < ·)) : ss.Nodup := h.imp fun h => Int.ne_of_lt h
theorem idx_nd {ss : List Int} {i : Nat} {x : Int} (nd : ss.Nodup) (h : ss[i]? = some x) : ss.idxOf x = i := by
  refine idx_first h fun k => ?_
  obtain ⟨j, hj⟩ := List.getElem?_of_mem k
  rw [List.getElem?_take] at hj
  by_cases c : j < i
  · rw [if_pos c] at hj
    have := nodup_idx nd hj h
    omega
  · rw [if_neg c] at hj; cases hj
end Ur

namespace Ur
open PySem L2
/-! ### windows of a row with numbers ahead and behind -/
theorem win_shift {A ns B : List Int} {f k : Nat} (h : f + k ≤ ns.length) : ((A ++ ns ++ B).drop (A.length + f)).take k = (ns.drop f).take k := by
  rw [List.append_assoc, ← List.drop_drop, List.drop_left, List.drop_append_of_le_length (by omega), List.take_append_of_le_length (by rw [List.length_drop]; omega)]
theorem wunN_shift {A ns B : List Int} {f b : Nat} (h : f ≤ b) (hb : b ≤ ns.length) : wunN (A ++ ns ++ B) (A.length + f) (A.length + b) = wunN ns f b := by
  unfold wunN
  rw [show A.length + b - (A.length + f) = b - f from by omega, win_shift (by omega)]
theorem wun_shift {A ns B : List Int} {f b : Int} (h0 : 0 ≤ f) (h : f ≤ b) (hb : b ≤ ns.length) : wun (A ++ ns ++ B) (f + A.length) (b + A.length) = wun ns f b := by
  rw [wun_N, wun_N, show (f + (A.length : Int)).toNat = A.length + f.toNat from by omega, show (b + (A.length : Int)).toNat = A.length + b.toNat from by omega]
  exact wunN_shift (by omega) (by omega)
theorem getD_shift {A ns B : List Int} {p : Nat} (h : p < ns.length) : (A ++ ns ++ B).getD (A.length + p) 0 = ns.getD p 0 := by
  rw [List.append_assoc, List.getD_eq_getElem?_getD, List.getD_eq_getElem?_getD, List.getElem?_append_right (by omega), show A.length + p - A.length = p from by omega, List.getElem?_append_left h]
theorem lp_shift {A ns B : List Int} {f p : Nat} (h : f ≤ p) (hp : p < ns.length) : lp (A ++ ns ++ B) (A.length + p) < ((A.length + f : Nat) : Int) ↔ lp ns p < (f : Int) := by
  have hl : (A ++ ns ++ B).length = A.length + ns.length + B.length := by rw [List.length_append, List.length_append]
  have k1 := last_in (ns := ns) (f := f) (k := p - f) (by omega)
  have k2 := last_in (ns := A ++ ns ++ B) (f := A.length + f) (k := p - f) (by omega)
  rw [show f + (p - f) = p from by omega] at k1
  rw [show A.length + f + (p - f) = A.length + p from by omega, win_shift (by omega), getD_shift hp] at k2
  have e1 : lp (A ++ ns ++ B) (A.length + p) = lastAt (A ++ ns ++ B) (A.length + p) (ns.getD p 0) := by rw [← getD_shift (A := A) (B := B) hp]; rfl
  have e2 : lp ns p = lastAt ns p (ns.getD p 0) := rfl
  rw [← e2] at k1
  rw [← e1] at k2
  have k3 := k1.symm.trans k2
  constructor
  · intro a
    exact Decidable.of_not_not fun z => k3.mp z a
  · intro a
    exact Decidable.of_not_not fun z => k3.mpr z a
theorem firP_shift {A ns B : List Int} {f b : Int} (h0 : 0 ≤ f) (h : f ≤ b) (hb : b ≤ ns.length) : (firP (A ++ ns ++ B) (f + A.length) (b + A.length)).map (fun x => x - (A.length : Int)) = firP ns f b := by
  unfold firP
  rw [List.map_map, show (b + (A.length : Int) - (f + (A.length : Int))) = b - f from by omega]
  have e : (List.range (b - f).toNat).filter (fun k => decide (lp (A ++ ns ++ B) ((f + (A.length : Int)).toNat + k) < f + (A.length : Int))) = (List.range (b - f).toNat).filter fun k => decide (lp ns (f.toNat + k) < f) := by
    refine List.filter_congr fun k hk => ?_
    rw [List.mem_range] at hk
    refine decide_eq_decide.mpr ?_
    have := lp_shift (A := A) (ns := ns) (B := B) (f := f.toNat) (p := f.toNat + k) (by omega) (by omega)
    rw [show (f + (A.length : Int)).toNat + k = A.length + (f.toNat + k) from by omega]
    rwa [show ((A.length + f.toNat : Nat) : Int) = f + (A.length : Int) from by omega, show ((f.toNat : Nat) : Int) = f from by omega] at this
  rw [e]
  refine List.map_congr_left fun k _ => ?_
  show f + (A.length : Int) + (k : Int) - (A.length : Int) = f + (k : Int)
  omega
theorem endAt_shift {A ns B : List Int} {f e : Nat} {m : Int} (hf : f ≤ ns.length) (h : endAt ns f m = some e) : endAt (A ++ ns ++ B) (A.length + f) m = some (A.length + e) := by
  have hl : (A ++ ns ++ B).length = A.length + ns.length + B.length := by rw [List.length_append, List.length_append]
  rcases endAt_spec (ns := ns) (f := f) (m := m) hf with ⟨e1, _⟩ | ⟨e', e1, h1, h2, h3, h4⟩
  · rw [e1] at h; cases h
  · rw [e1] at h
    injection h with h
    subst h
    refine endAt_is (by omega) (by omega) (by rw [wunN_shift h1 h2]; exact h3) fun b k1 k2 => ?_
    have := h4 (b - A.length) (by omega) (by omega)
    rw [← wunN_shift (A := A) (B := B) (by omega) (by omega), show A.length + (b - A.length) = b from by omega] at this
    exact this
theorem begAt_shift {A ns B : List Int} {b e : Nat} {m : Int} (hb : b ≤ ns.length) (h : begAt ns b m = some e) : begAt (A ++ ns ++ B) (A.length + b) m = some (A.length + e) := by
  rcases begK_spec (ns := ns) (b := b) (m := m) b with ⟨e1, _⟩ | ⟨e', e1, h1, h2, h3⟩
  · have e2 : begAt ns b m = none := e1
    rw [e2] at h; cases h
  · have e2 : begAt ns b m = some e' := e1
    rw [e2] at h
    injection h with h
    subst h
    refine begAt_is (by omega) (by rw [wunN_shift h1 hb]; exact h2) fun j k1 k2 => ?_
    have := h3 (j - A.length) (by omega) (by omega)
    rw [← wunN_shift (A := A) (B := B) (by omega) hb, show A.length + (j - A.length) = j from by omega] at this
    exact this
/-! ### called otherwise -/
theorem wunN_mapS {f : Int → Int} {ns : List Int} (h : InjOn f ns) (a b : Nat) : wunN (ns.map f) a b = wunN ns a b := by
  unfold wunN
  rw [← List.map_drop, ← List.map_take]
  exact ulen_map fun x hx y hy e => h x (List.mem_of_mem_drop (List.mem_of_mem_take hx)) y (List.mem_of_mem_drop (List.mem_of_mem_take hy)) e
theorem wun_mapS {f : Int → Int} {ns : List Int} (h : InjOn f ns) (a b : Int) : wun (ns.map f) a b = wun ns a b := wunN_mapS h _ _
theorem firP_map {g : Int → Int} {ns : List Int} (h : InjOn g ns) {f b : Int} (h0 : 0 ≤ f) (hb : b ≤ ns.length) : firP (ns.map g) f b = firP ns f b := by
  unfold firP
  congr 1
  refine List.filter_congr fun k hk => ?_
  rw [List.mem_range] at hk
  have hk2 : f.toNat + k < ns.length := by omega
  have e : lp (ns.map g) (f.toNat + k) = lp ns (f.toNat + k) := by
    rw [← lastP_getD hk2, ← lastP_getD (by rw [List.length_map]; exact hk2), lastP_map h]
  rw [e]
theorem endAt_map {g : Int → Int} {ns : List Int} (h : InjOn g ns) {f : Nat} {m : Int} (hf : f ≤ ns.length) : endAt (ns.map g) f m = endAt ns f m := by
  have hl : (ns.map g).length = ns.length := List.length_map ..
  rcases endAt_spec (ns := ns) (f := f) (m := m) hf with ⟨e1, e2⟩ | ⟨e, e1, h1, h2, h3, h4⟩
  · rcases endAt_spec (ns := ns.map g) (f := f) (m := m) (by omega) with ⟨k1, _⟩ | ⟨e, k1, h1, h2, h3, _⟩
    · rw [e1, k1]
    · rw [wunN_mapS h] at h3
      exact absurd h3 (e2 e h1 (by omega))
  · rw [e1]
    refine endAt_is h1 (by omega) (by rw [wunN_mapS h]; exact h3) fun b k1 k2 => ?_
    rw [wunN_mapS h]
    exact h4 b k1 k2
theorem begAt_map {g : Int → Int} {ns : List Int} (h : InjOn g ns) {b : Nat} {m : Int} : begAt (ns.map g) b m = begAt ns b m := by
  rcases begK_spec (ns := ns) (b := b) (m := m) b with ⟨e1, e2⟩ | ⟨e, e1, h1, h2, h3⟩
  · rcases begK_spec (ns := ns.map g) (b := b) (m := m) b with ⟨k1, _⟩ | ⟨e, k1, h1, h2, h3⟩
    · exact k1.trans e1.symm
    · rw [wunN_mapS h] at h2
      exact absurd h2 (e2 e h1)
  · refine (begAt_is h1 (by rw [wunN_mapS h]; exact h2) fun j k1 k2 => ?_).trans e1.symm
    rw [wunN_mapS h]
    exact h3 j k1 k2
/-! ### from behind -/
theorem wunN_back {ns : List Int} {p q : Nat} (h : p ≤ q) (hq : q ≤ ns.length) : wunN ns.reverse (ns.length - q) (ns.length - p) = wunN ns p q := by
  unfold wunN
  have e : (ns.reverse.drop (ns.length - q)).take (ns.length - p - (ns.length - q)) = ((ns.drop p).take (q - p)).reverse := by
    rw [List.drop_reverse, List.take_reverse]
    congr 1
    rw [show ns.length - (ns.length - q) = q from by omega, List.length_take, Nat.min_eq_left hq, show ns.length - p - (ns.length - q) = q - p from by omega, show q - (q - p) = p from by omega, List.drop_take]
  rw [e, ulen_rev]
theorem wun_back {ns : List Int} {f b : Int} (h0 : 0 ≤ f) (h : f ≤ b) (hb : b ≤ ns.length) : wun ns.reverse ((ns.length : Int) - b) ((ns.length : Int) - f) = wun ns f b := by
  rw [wun_N, wun_N, show ((ns.length : Int) - b).toNat = ns.length - b.toNat from by omega, show ((ns.length : Int) - f).toNat = ns.length - f.toNat from by omega]
  exact wunN_back (by omega) (by omega)
theorem begAt_back {ns : List Int} {f : Nat} {m : Int} (hf : f ≤ ns.length) : begAt ns.reverse (ns.length - f) m = (endAt ns f m).map fun e => ns.length - e := by
  have hl : ns.reverse.length = ns.length := List.length_reverse
  rcases endAt_spec (ns := ns) (f := f) (m := m) hf with ⟨e1, e2⟩ | ⟨e, e1, h1, h2, h3, h4⟩
  · rw [e1]
    rcases begK_spec (ns := ns.reverse) (b := ns.length - f) (m := m) (ns.length - f) with ⟨k1, _⟩ | ⟨e, k1, h1, h2, h3⟩
    · exact k1
    · have := e2 (ns.length - e) (by omega) (by omega)
      rw [← wunN_back (by omega) (by omega), show ns.length - (ns.length - e) = e from by omega] at this
      exact absurd h2 this
  · rw [e1]
    show begAt ns.reverse (ns.length - f) m = some (ns.length - e)
    refine begAt_is (by omega) (by rw [wunN_back h1 h2]; exact h3) fun j k1 k2 => ?_
    have := h4 (ns.length - j) (by omega) (by omega)
    rw [← wunN_back (by omega) (by omega), show ns.length - (ns.length - j) = j from by omega] at this
    exact this
/-! ### all answers of a window -/
def optD : Option Nat → PyData
  | none => .none
  | some e => .int e
theorem dp_opt {K : PySem.W.Frag} {H : Hp} : ∀ x : Option Nat, Dp K H (optV x) (optD x)
  | none => .non
  | some e => .int e
/-- the list of all answers -/
structure AllA (H : Hp) (p : Addr) (ns : List Int) (f b m : Int) : Prop where
  all : ∃ q : Addr, H p = some (.lst [.int (wun ns f b : Nat), .ref q, optV (endAt ns f.toNat m), optV (begAt ns b.toNat m)]) ∧ H q = some (.lst ((firP ns f b).map V.int))
theorem AllA.same {H H' : Hp} {p : Addr} {ns : List Int} {f b m : Int} (k : AllA H p ns f b m) (s : Same H H') : AllA H' p ns f b m := by
  obtain ⟨q, e1, e2⟩ := k.all
  exact ⟨q, s _ _ e1, s _ _ e2⟩
def allD (ns : List Int) (f b m : Int) : PyData := .list [.int (wun ns f b : Nat), .list ((firP ns f b).map .int), optD (endAt ns f.toNat m), optD (begAt ns b.toNat m)]
theorem AllA.dp {K : PySem.W.Frag} {H : Hp} {p : Addr} {ns : List Int} {f b m : Int} (k : AllA H p ns f b m) : Dp K H (.ref p) (allD ns f b m) := by
  obtain ⟨q, e1, e2⟩ := k.all
  exact .lst (.of e1) (.cons (.int _) (.cons (dp_ints (.of e2)) (.cons (dp_opt _) (.cons (dp_opt _) .nil))))
theorem optD_ok : ∀ x : Option Nat, PyData.canLay0 (optD x) = true ∧ PyData.depth (optD x) ≤ 2 ∧ PyData.eqv (optD x) (optD x) = true
  | none => ⟨rfl, by decide, rfl⟩
  | some e => ⟨rfl, by show PyData.depth (.int _) ≤ 2; rw [PyData.depth]; decide, by show PyData.eqv (.int _) (.int _) = true; exact decide_eq_true rfl⟩
theorem allD_ok (ns : List Int) (f b m : Int) : SeqAt.shaped (allD ns f b m) = true ∧ PyData.eqv (allD ns f b m) (allD ns f b m) = true := by
  have a1 := optD_ok (endAt ns f.toNat m)
  have a2 := optD_ok (begAt ns b.toNat m)
  have hc : ∀ d ∈ [PyData.int (wun ns f b : Nat), .list ((firP ns f b).map .int), optD (endAt ns f.toNat m), optD (begAt ns b.toNat m)], PyData.canLay0 d = true ∧ PyData.depth d ≤ 2 ∧ PyData.eqv d d = true := by
    intro d hd
    simp only [List.mem_cons, List.not_mem_nil, or_false] at hd
    rcases hd with rfl | rfl | rfl | rfl
    · exact ⟨rfl, by rw [PyData.depth]; decide, decide_eq_true rfl⟩
    · exact ⟨canLayAll_ints _, depth_ints _, by rw [eqv_ints]; exact decide_eq_true rfl⟩
    · exact a1
    · exact a2
  refine ⟨shaped_of (canLayAll_of _ fun d h => (hc d h).1) ?_, eqvAll_refl _ fun d h => (hc d h).2.2⟩
  have h := depthAll_of (m := 2) _ fun d h => (hc d h).2.1
  show PyData.depth (.list _) ≤ 64
  rw [PyData.depth]
  omega
theorem rNe_all {K : PySem.W.Frag} {H : Hp} {p q : Addr} {ns : List Int} {f b m : Int} {Q : VK} (h1 : AllA H p ns f b m) (h2 : AllA H q ns f b m) (k : Q (.bl false) H) : rNeD K (.ref p) (.ref q) H Q :=
  ⟨_, _, h1.dp, h2.dp, (allD_ok ns f b m).1, (allD_ok ns f b m).1, by rw [(allD_ok ns f b m).2]; exact k⟩
theorem rEq_all {K : PySem.W.Frag} {H : Hp} {p q : Addr} {ns : List Int} {f b m : Int} {Q : VK} (h1 : AllA H p ns f b m) (h2 : AllA H q ns f b m) (k : Q (.bl true) H) : rEqD K (.ref p) (.ref q) H Q :=
  ⟨_, _, h1.dp, h2.dp, (allD_ok ns f b m).1, (allD_ok ns f b m).1, by rw [(allD_ok ns f b m).2]; exact k⟩
theorem Rdy.off {C : Addr} {L : Addr → Prop} {H : Hp} {o a : Addr} {ns : List Int} (r : Rdy C L H o ns) (l : L a) : Rdy C (fun b => b = a) H o ns := r.sub fun b e => e ▸ l
theorem AllA.map {H : Hp} {p : Addr} {ns : List Int} {f b m : Int} {g : Int → Int} (h : InjOn g ns) (h0 : 0 ≤ f) (h1 : f ≤ b) (hb : b ≤ ns.length) (k : AllA H p (ns.map g) f b m) : AllA H p ns f b m := by
  obtain ⟨q, e1, e2⟩ := k.all
  rw [wun_mapS h, endAt_map h (by omega), begAt_map h] at e1
  rw [firP_map h h0 hb] at e2
  exact ⟨q, e1, e2⟩
end Ur

namespace Ur
open PySem L2
/-! ### tables: lines of a row, told again -/
theorem lineW_plain (ns : List Int) (f : Nat) : lineW (plainP ns) f = lineW ns f := by
  unfold lineW
  rw [plainP_len]
  refine List.map_congr_left fun k _ => ?_
  rw [show wunN (plainP ns) f (f + k) = wunN ns f (f + k) from wunN_map (f := fun x => (plainAt ns x : Int)) (plain_inj ns) f (f + k)]
theorem filter_range_le (l : Int) : ∀ n : Nat, -1 ≤ l → l < n → (((List.range n).filter fun k : Nat => decide ((k : Int) ≤ l)).length : Int) = l + 1
  | 0, h1, h2 => by
    show ((0 : Nat) : Int) = l + 1
    omega
  | n + 1, h1, h2 => by
    rw [List.range_succ, List.filter_append, List.length_append]
    by_cases h : l < n
    · have ih := filter_range_le l n h1 h
      have e : ([n].filter fun k : Nat => decide ((k : Int) ≤ l)) = [] := by
        rw [List.filter_cons, if_neg (by rw [decide_eq_false (by omega)]; exact Bool.false_ne_true)]; rfl
      rw [e]
      show (((((List.range n).filter fun k : Nat => decide ((k : Int) ≤ l)).length + 0 : Nat)) : Int) = l + 1
      omega
    · have hl : l = n := by omega
      have e : ([n].filter fun k : Nat => decide ((k : Int) ≤ l)) = [n] := by
        rw [List.filter_cons, if_pos (decide_eq_true (by omega))]; rfl
      have ea : ((List.range n).filter fun k : Nat => decide ((k : Int) ≤ l)) = List.range n := List.filter_eq_self.mpr fun k hk => decide_eq_true (by have := List.mem_range.mp hk; omega)
      rw [e, ea, List.length_range]
      show (((n + 1 : Nat)) : Int) = l + 1
      omega
/-- at as many first places as the last place tells a place adds nothing -/
theorem lines_last {ns : List Int} {p : Nat} (hp : p < ns.length) : (((List.range (p + 1)).filter fun k => decide ((wunN ns k p : Int) = (wunN ns k (p + 1) : Int))).length : Int) - 1 = lp ns p := by
  have hr := lastAt_range ns (ns.getD p 0) p
  have e : ((List.range (p + 1)).filter fun k => decide ((wunN ns k p : Int) = (wunN ns k (p + 1) : Int))) = (List.range (p + 1)).filter fun k : Nat => decide ((k : Int) ≤ lp ns p) := by
    refine List.filter_congr fun k hk => ?_
    have hk2 := List.mem_range.mp hk
    rw [wunN_up (by omega) hp]
    refine decide_eq_decide.mpr ?_
    show _ ↔ (k : Int) ≤ lastAt ns p (ns.getD p 0)
    split <;> omega
  rw [e, filter_range_le (lp ns p) (p + 1) hr.1 (by have : lp ns p < p := hr.2; omega)]
  omega
theorem drop2 {ls : List Int} {j : Nat} (h : j + 1 < ls.length) : (ls.drop j).take 2 = [ls.getD j 0, ls.getD (j + 1) 0] := by
  rw [List.drop_eq_getElem_cons (by omega), List.drop_eq_getElem_cons h, List.getD_eq_getElem?_getD, List.getD_eq_getElem?_getD, List.getElem?_eq_getElem (by omega), List.getElem?_eq_getElem h]
  rfl
theorem line2 {ns : List Int} {k i : Nat} {a b : Int} (hk : k ≤ i) (hi : i < ns.length) (ha : a = (i : Int) - k) (hb : b = a + 2) : ((lineW ns k).drop a.toNat).take (b.toNat - a.toNat) = [(wunN ns k i : Int), (wunN ns k (i + 1) : Int)] := by
  have hl := lineW_len ns k
  rw [show a.toNat = i - k by omega, show b.toNat - (i - k) = 2 by omega, drop2 (by omega), lineW_getD (by omega), lineW_getD (by omega), show k + (i - k) = i by omega, show k + (i - k + 1) = i + 1 by omega]
section
variable {K : PySem.W.Frag} {a : Addr} {σ : L2.St} {H1 : Hp} {Dl : Addr} {te : TE} {tt : TT} {vs : List Nat} {j : Nat} {Qd : Hp → Prop}
/-- [x for x in a list of objects if ..]: how many -/
theorem lc_refsIfN {ls : List Addr} (t : Nat → Bool) (hn : ls.length ≤ 1000000) (ha : SqL K H1 a (ls.map V.ref)) (hD : H1 Dl = none) (hw : ∀ x, wipe ((wipe σ vs).set j (some x)) vs = wipe σ vs)
    (ht : ∀ (k : Nat) p H', ls[k]? = some p → Same H1 H' → ∀ Q' : Bool → Hp → Prop, (∀ H4, Same H' H4 → Q' (t k) H4) → tt ((wipe σ vs).set j (some (.ref p))) H' Q')
    (he : ∀ (k : Nat) p H', ls[k]? = some p → Same H1 H' → ∀ Q' : VK, (∀ H4, Same H' H4 → Q' (.ref p) H4) → te ((wipe σ vs).set j (some (.ref p))) H' Q')
    (hd : ∀ H' (qs : List Addr), Same H1 H' → H' Dl = some (.lst (qs.map V.ref)) → qs.length = ((List.range ls.length).filter t).length → Qd H') :
    ∃ W : Nat → Nat → Hp → Prop, (∃ m, W 0 m (upd H1 Dl (.lst []))) ∧ ∀ i m H, W i m H →
      ((Itl K a).stop i H ∧ Qd H) ∨ ((Itl K a).go i H ∧ ∃ Nx : Hp → Prop, (∀ H', Nx H' → ∃ m', m' < m ∧ W (i + 1) m' H') ∧ ∀ x H', (Itl K a).yld i H x H' → gName j x (wipe σ vs) H' fun σ2 H2 => wipe σ2 vs = wipe σ vs ∧ tt σ2 H2 fun b H3 =>
        if b = true then te σ2 H3 fun y H4 => ∃ acc, H4 Dl = some (.lst acc) ∧ acc.length < sizeLine ∧ Nx (upd H4 Dl (.lst (acc ++ [y]))) else Nx H3) := by
  refine lc_list (K := K) (a := a) (xs := ls.map V.ref) (fun i H' => ∃ qs : List Addr, Same H1 H' ∧ H' Dl = some (.lst (qs.map V.ref)) ∧ qs.length = ((List.range i).filter t).length) ⟨[], same_new hD, upd_same, rfl⟩ (fun i H' hi p => by obtain ⟨qs, s, _⟩ := p; exact s.seq ha) (fun i x H' hx p => ?_) (fun H' p => ?_)
  · obtain ⟨qs, s, eD, hl⟩ := p
    rw [List.getElem?_map] at hx
    obtain ⟨p, hp, rfl⟩ := Option.map_eq_some_iff.mp hx
    have hi := (List.getElem?_eq_some_iff.mp hp).1
    refine ⟨hw _, ?_⟩
    refine ht i p H' hp s _ fun H3 s3 => ?_
    have hfl := List.length_filter_le t (List.range i)
    rw [List.length_range] at hfl
    cases hb : t i with
    | true =>
      refine (if_pos rfl).mpr ?_
      refine he i p H3 hp (s.trans s3) _ fun H4 s4 => ?_
      refine ⟨_, s4 _ _ (s3 _ _ eD), szl (by rw [List.length_map]; omega), qs ++ [p], same_upd' hD ((s.trans s3).trans s4), by rw [upd_same, List.map_append]; rfl, ?_⟩
      rw [List.length_append, List.range_succ, List.filter_append, List.length_append, List.filter_cons, if_pos hb, hl]; rfl
    | false =>
      refine (if_neg Bool.false_ne_true).mpr ⟨qs, s.trans s3, s3 _ _ eD, ?_⟩
      rw [List.range_succ, List.filter_append, List.length_append, List.filter_cons, if_neg (by rw [hb]; exact Bool.false_ne_true), hl]; rfl
  · obtain ⟨qs, s, eD, hl⟩ := p
    rw [List.length_map] at hl
    exact hd H' qs s eD hl
end
/-! repr of lists of ints -/
theorem good_ints {ns : List Int} (h : ∀ n ∈ ns, SmI n) (hl : ns.length ≤ 1000) : GoodD (.list (ns.map .int)) := by
  have w := weightAll_sm h
  refine good_of (canLayAll_ints ns) (Nat.le_trans (depth_ints ns) (by decide)) ?_ ?_ ?_
  · rw [PyData.weight]
    have e : (2 : Nat) ^ 20 = 1048576 := by decide
    omega
  · rw [PyData.showable]
    exact showAll_sm h
  · rw [PyData.intsShort]
    exact shortAll_sm h
theorem repr_ints {K : PySem.W.Frag} {H : Hp} {p : Addr} {ns : List Int} {Q : VK} (h : H p = some (.lst (ns.map V.int))) (s : ∀ n ∈ ns, SmI n) (hl : ns.length ≤ 1000) (q : Q (.str (PyData.list (ns.map .int)).shown) H) : rRepr K [.ref p] H Q :=
  repr_good (dp_ints (SqL.of h)) (good_ints s hl) q
theorem plain_sm {ns : List Int} (hl : ns.length ≤ 1000) : ∀ n ∈ plainP ns, SmI n := fun n hn => by
  unfold plainP at hn
  obtain ⟨x, _, rfl⟩ := List.mem_map.mp hn
  have h : plainAt ns x ≤ ns.length := by
    unfold plainAt
    exact Nat.le_trans (ulen_le _) (by rw [List.length_take]; omega)
  show -1000000 < ((plainAt ns x : Nat) : Int) ∧ ((plainAt ns x : Nat) : Int) < 1000000
  omega
/-! tables of parts -/
theorem lineW_dropG {ns : List Int} {k f : Nat} : lineW (ns.drop k) f = lineW ns (k + f) := by
  unfold lineW
  rw [List.length_drop, show ns.length - k - f = ns.length - (k + f) by omega]
  refine List.map_congr_left fun j _ => ?_
  show ((ulen (((ns.drop k).drop f).take (f + j - f)) : Nat) : Int) = ((ulen ((ns.drop (k + f)).take (k + f + j - (k + f))) : Nat) : Int)
  rw [List.drop_drop, show f + j - f = k + f + j - (k + f) by omega]
theorem wunN_takeG {ns : List Int} {t f b : Nat} (h : b ≤ t) : wunN (ns.take t) f b = wunN ns f b := by
  unfold wunN
  rw [List.drop_take, List.take_take, Nat.min_eq_left (by omega)]
theorem lineW_takeG {ns : List Int} {t f : Nat} (hf : f ≤ t) (ht : t ≤ ns.length) : (lineW ns f).take (t - f + 1) = lineW (ns.take t) f := by
  unfold lineW
  rw [← List.map_take, List.take_range, Nat.min_eq_left (by omega), List.length_take, Nat.min_eq_left ht]
  refine List.map_congr_left fun j hj => ?_
  have := List.mem_range.mp hj
  rw [wunN_takeG (by omega)]
theorem lineW_back {ns : List Int} {f : Nat} (hf : f ≤ ns.length) : lineW ns.reverse f = (List.range (ns.length - f + 1)).map fun w => (wunN ns (ns.length - f - w) (ns.length - f) : Int) := by
  unfold lineW
  rw [List.length_reverse]
  refine List.map_congr_left fun w hw => ?_
  have := List.mem_range.mp hw
  have e := wunN_back (ns := ns) (p := ns.length - f - w) (q := ns.length - f) (by omega) (by omega)
  rw [show ns.length - (ns.length - f) = f by omega, show ns.length - (ns.length - f - w) = f + w by omega] at e
  rw [e]
theorem wunN_newG {ns : List Int} {x : Int} {f b : Nat} (h : b ≤ ns.length) : wunN (ns ++ [x]) f b = wunN ns f b := by
  by_cases hf : f ≤ b
  · unfold wunN
    rw [List.drop_append_of_le_length (by omega), List.take_append_of_le_length (by rw [List.length_drop]; omega)]
  · unfold wunN
    rw [show b - f = 0 by omega, List.take_zero, List.take_zero]
theorem wunN_newE {ns : List Int} {x : Int} {f : Nat} (hf : f ≤ ns.length) (hx : x ∉ ns) : wunN (ns ++ [x]) f (ns.length + 1) = wunN ns f ns.length + 1 := by
  unfold wunN
  rw [List.drop_append_of_le_length hf, List.take_of_length_le (by rw [List.length_append, List.length_drop]; show ns.length - f + 1 ≤ _; omega), List.take_of_length_le (by rw [List.length_drop]; omega), ulen_snoc, if_neg (fun h => hx (List.mem_of_mem_drop h))]
theorem lineW_new {ns : List Int} {x : Int} {f : Nat} (hf : f ≤ ns.length) (hx : x ∉ ns) : lineW (ns ++ [x]) f = lineW ns f ++ [(wunN ns f ns.length : Int) + 1] := by
  unfold lineW
  rw [List.length_append]
  show (List.range (ns.length + 1 - f + 1)).map _ = _
  rw [show ns.length + 1 - f + 1 = ns.length - f + 1 + 1 by omega, List.range_succ, List.map_append]
  refine congr (congrArg _ (List.map_congr_left fun j hj => ?_)) ?_
  · have := List.mem_range.mp hj
    rw [wunN_newG (by omega)]
  · show [((wunN (ns ++ [x]) f (f + (ns.length - f + 1)) : Nat) : Int)] = _
    rw [show f + (ns.length - f + 1) = ns.length + 1 by omega, wunN_newE hf hx]
    rfl
theorem lineW_newL {ns : List Int} {x : Int} : lineW (ns ++ [x]) (ns.length + 1) = [0] := by
  unfold lineW
  rw [List.length_append]
  show (List.range (ns.length + 1 - (ns.length + 1) + 1)).map _ = _
  rw [show ns.length + 1 - (ns.length + 1) + 1 = 1 by omega]
  show [((wunN (ns ++ [x]) (ns.length + 1) (ns.length + 1 + 0) : Nat) : Int)] = [0]
  rw [Nat.add_zero, wunN_none]
  rfl
theorem lineW_last {ns : List Int} {f : Nat} (hf : f ≤ ns.length) : (lineW ns f).getD ((lineW ns f).length - 1) 0 = (wunN ns f ns.length : Int) := by
  rw [lineW_len, lineW_getD (by omega), show f + (ns.length - f + 1 - 1) = ns.length by omega]
theorem plainP_new {ns : List Int} {x : Int} (hx : x ∉ ns) : plainP (ns ++ [x]) = plainP ns ++ [(ulen ns : Int)] := by
  have h1 : ∀ y ∈ ns, plainAt (ns ++ [x]) y = plainAt ns y := fun y hy => by
    unfold plainAt
    rw [List.idxOf_append, if_pos hy, List.take_append_of_le_length (Nat.le_of_lt (List.idxOf_lt_length_iff.mpr hy))]
  unfold plainP
  rw [List.map_append]
  refine congr (congrArg _ (List.map_congr_left fun y hy => by rw [h1 y hy])) ?_
  show [((plainAt (ns ++ [x]) x : Nat) : Int)] = _
  unfold plainAt
  rw [List.idxOf_append, if_neg hx, List.idxOf_cons_self, Nat.zero_add, List.take_left]
/-- other windows of a list of lines -/
theorem RowsF.dropG {H : Hp} {ls : List Addr} {n : Nat} {F : Nat → List Int} (r : RowsF H ls n F) (k : Nat) : RowsF H (ls.drop k) (n - k) (fun i => F (k + i)) := ⟨by rw [List.length_drop, r.len], fun i p h => by
  rw [List.getElem?_drop] at h
  exact r.row (k + i) p h⟩
theorem RowsF.cast {H : Hp} {ls : List Addr} {n m : Nat} {F G : Nat → List Int} (r : RowsF H ls n F) (h : n = m) (e : ∀ k, k < m → F k = G k) : RowsF H ls m G := by
  subst h
  exact r.congr e
theorem get_snocT {ks : List Addr} {k x : Addr} {i : Nat} (h : (ks ++ [k])[i]? = some x) : (i < ks.length ∧ ks[i]? = some x) ∨ (i = ks.length ∧ x = k) := by
  by_cases hk : i < ks.length
  · rw [List.getElem?_append_left hk] at h
    exact .inl ⟨hk, h⟩
  · have h2 := (List.getElem?_eq_some_iff.mp h).1
    rw [List.length_append] at h2
    have h3 : [k].length = 1 := rfl
    have hk2 : i = ks.length := by omega
    subst hk2
    rw [List.getElem?_append_right (Nat.le_refl _), Nat.sub_self] at h
    cases h
    exact .inr ⟨rfl, rfl⟩
end Ur

namespace Ur
open PySem L2
/-! ### things that are lists of last places -/
def LasAt (xs : List V) (i : Nat) (x : V) : Prop := ∃ n : Int, x = .int n ∧ -1 ≤ n ∧ n < i ∧ (0 ≤ n → V.int n ∉ xs.take i)
def LasOk (xs : List V) : Prop := ∀ i x, xs[i]? = some x → LasAt xs i x
def LasB (H : Hp) (v : V) (b : Bool) : Prop := b = true ↔ ∃ p xs, v = .ref p ∧ H p = some (.lst xs) ∧ LasOk xs
theorem LasB.ex (H : Hp) (v : V) : ∃ b, LasB H v b := by
  by_cases h : ∃ p xs, v = .ref p ∧ H p = some (.lst xs) ∧ LasOk xs
  · exact ⟨true, fun _ => h, fun _ => rfl⟩
  · exact ⟨false, fun e => Bool.noConfusion e, fun k => (h k).elim⟩
theorem LasB.off {H : Hp} {v : V} {b : Bool} (h : LasB H v b) (n : ∀ p xs, v = .ref p → H p ≠ some (.lst xs)) : b = false := by
  cases b with
  | false => rfl
  | true => obtain ⟨p, xs, e, k, _⟩ := h.mp rfl; exact (n p xs e k).elim
theorem LasB.bad {H : Hp} {p : Addr} {b : Bool} {xs : List V} {i : Nat} {x : V} (h : LasB H (.ref p) b) (e : H p = some (.lst xs)) (hx : xs[i]? = some x) (n : ¬ LasAt xs i x) : b = false := by
  cases b with
  | false => rfl
  | true =>
    obtain ⟨q, ys, z, k, f⟩ := h.mp rfl
    cases z
    rw [e] at k
    cases k
    exact (n (f i x hx)).elim
theorem LasB.good {H : Hp} {p : Addr} {b : Bool} {xs : List V} (h : LasB H (.ref p) b) (e : H p = some (.lst xs)) (f : LasOk xs) : b = true := h.mpr ⟨p, xs, rfl, e, f⟩
theorem LasB.same {H H' : Hp} {v : V} {b : Bool} (h : LasB H v b) (k : Kind H v) (s : Same H H') : LasB H' v b := by
  refine h.trans ⟨fun ⟨p, xs, e, z, f⟩ => ⟨p, xs, e, s _ _ z, f⟩, fun ⟨p, xs, e, z, f⟩ => ?_⟩
  subst e
  obtain ⟨o, ho⟩ := k.some
  have w := s _ _ ho
  rw [z] at w
  cases w
  exact ⟨p, xs, rfl, ho, f⟩
theorem LasB.noAt {H : Hp} {p : Addr} {xs : List V} {i : Nat} {x : V} (e : H p = some (.lst xs)) (hx : xs[i]? = some x) (n : ∀ k : Int, x ≠ .int k) : LasB H (.ref p) false :=
  ⟨fun z => (nomatch z), fun ⟨q, ys, z, k, f⟩ => by
    cases z
    rw [e] at k
    cases k
    obtain ⟨m, e1, _⟩ := f i x hx
    exact (n m e1).elim⟩
theorem LasB.noList {H : Hp} {v : V} (n : ∀ p xs, v = .ref p → H p ≠ some (.lst xs)) : LasB H v false := ⟨fun z => (nomatch z), fun ⟨q, ys, z, k, _⟩ => (n q ys z k).elim⟩
theorem las_ints {xs : List V} {i : Nat} (f : ∀ j x, j < i → xs[j]? = some x → LasAt xs j x) : ∃ ns : List Int, xs.take i = ns.map V.int :=
  ints_of fun x hx => by
    obtain ⟨j, hj⟩ := List.mem_iff_getElem?.mp hx
    rw [List.getElem?_take] at hj
    by_cases h : j < i
    · rw [if_pos h] at hj
      obtain ⟨n, e, _⟩ := f j x h hj
      exact ⟨n, e⟩
    · rw [if_neg h] at hj; cases hj
theorem LasOk.of_lastP (r : List Int) : LasOk ((lastP r).map V.int) := fun i x hx => by
  obtain ⟨n, hn, rfl⟩ := iv_get hx
  obtain ⟨o1, o2, o3⟩ := lastP_ok hn
  exact ⟨n, rfl, o1, o2, fun h k => by rw [← List.map_take] at k; exact o3 h (int_mem.mp k)⟩
theorem LasOk.ints {ns : List Int} (h : LasOk (ns.map V.int)) {i : Nat} {n : Int} (e : ns[i]? = some n) : -1 ≤ n ∧ n < i ∧ (0 ≤ n → n ∉ ns.take i) := by
  obtain ⟨m, e1, e2, e3, e4⟩ := h i _ (iv_get' e)
  cases e1
  exact ⟨e2, e3, fun h k => e4 h (by rw [← List.map_take]; exact int_mem.mpr k)⟩
theorem ulen_plain (r : List Int) : ulen (plainP r) = ulen r := ulen_map (plain_inj r)
theorem LasOk.row {xs : List V} (h : LasOk xs) : ∃ r : List Int, xs = (lastP r).map V.int := by
  have go : ∀ n, n ≤ xs.length → ∃ r : List Int, r.length = n ∧ xs.take n = (lastP r).map V.int := by
    intro n
    induction n with
    | zero => exact fun _ => ⟨[], rfl, by rw [List.take_zero]; rfl⟩
    | succ n ih =>
      intro hn
      obtain ⟨r, hl, e⟩ := ih (by omega)
      have hx := List.getElem?_eq_getElem (l := xs) (i := n) (by omega)
      obtain ⟨m, e1, e2, e3, e4⟩ := h n _ hx
      rw [e1] at hx
      by_cases h0 : 0 ≤ m
      · have k := e4 h0
        rw [e] at k
        have hnot : m ∉ lastP r := fun z => k (int_mem.mpr z)
        have o := lasts_old (r := r) (l := m.toNat) (by omega) (by rw [Int.toNat_of_nonneg h0]; exact hnot)
        rw [Int.toNat_of_nonneg h0] at o
        exact ⟨r ++ [r.getD m.toNat 0], by rw [List.length_append, hl]; rfl, by rw [take_snocV hx, e, o, List.map_append]; rfl⟩
      · obtain ⟨y, o⟩ := lasts_new r
        have hm : m = -1 := by omega
        subst hm
        exact ⟨r ++ [y], by rw [List.length_append, hl]; rfl, by rw [take_snocV hx, e, o, List.map_append]; rfl⟩
  obtain ⟨r, _, e⟩ := go xs.length (Nat.le_refl _)
  exact ⟨r, by rw [← e, List.take_length]⟩
theorem LasB.row {H : Hp} {v : V} (h : LasB H v true) : ∃ (p : Addr) (r : List Int), v = .ref p ∧ H p = some (.lst ((lastP r).map V.int)) := by
  obtain ⟨p, xs, rfl, e, f⟩ := h.mp rfl
  obtain ⟨r, rfl⟩ := f.row
  exact ⟨p, r, rfl, e⟩
theorem LasB.notGood {H : Hp} {p : Addr} {r : List Int} (h : LasB H (.ref p) false) (e : H p = some (.lst ((lastP r).map V.int))) : False := by
  have := h.mpr ⟨p, _, rfl, e, .of_lastP r⟩
  cases this
theorem LasB.good2 {H : Hp} {p : Addr} {r : List Int} (e : H p = some (.lst ((lastP r).map V.int))) : LasB H (.ref p) true := ⟨fun _ => ⟨p, _, rfl, e, .of_lastP r⟩, fun _ => rfl⟩
end Ur

namespace Ur
open PySem PySem.Spec PyProof.Rows L2
/-! ### an exception that is caught and kept: except X as e: kept = e -/
/-- an exception of the class cls, kept at a -/
def ExI (cls : Value) (a : Addr) : HO := .ext fun h => ∃ (o : Obj) (vs : Array Value), h.get? a = some o ∧ Zc cls none o ∧ o.data = .fields vs
theorem exI_ok {P : Program} {w : World} {H : Hp} {h : Heap} {a : Addr} {cls : Value} {o : Obj} {vs : Array Value} (g : h.get? a = some o) (z : Zc cls none o) (f : o.data = .fields vs) : ObjOk P w H h a (ExI cls a) :=
  ⟨⟨o, vs, g, z, f⟩, ⟨o, g⟩, fun _ _ ⟨u, v, q, r⟩ k => ⟨u, v, k u q, r⟩⟩
section
variable {X : Cx} {pins : List (Addr × Obj)} {σ : L2.St} {H : Hp} {s : Shared}
theorem keepE {a : Addr} {cls : Value} {oe : Obj} {vs : Array Value} (I : Inv X pins σ H s) (na : H a = none) (nL : a ≠ X.env.locals) (he : s.heap.get? a = some oe) (hz : Zc cls none oe) (hd : oe.data = .fields vs)
    (n0 : X.s_0.heap.get? a = none) (np : ∀ p ∈ X.pn ++ pins, p.1 ≠ a) : Inv X pins σ (upd H a (ExI cls a)) s := by
  have off : ∀ {b : Addr} {o : HO}, H b = some o → (upd H a (ExI cls a)) b = some o := fun e => by
    rw [upd_ne (ne_of_none e na)]; exact e
  refine ⟨I.ok, I.os, I.bare, ⟨I.base.keep, I.base.slot, fun b o e n hx => ?_, I.base.there, fun b xs e => off (I.base.tups b xs e), fun b o u e => off (I.base.frzs b o u e), fun b ps e => ?_⟩, I.loc, I.cell, ?_, fun x c e => ?_, fun p hp => ?_, fun b u e => ?_, I.len⟩
  · have nb : b ≠ a := fun z => by rw [z, n0] at e; cases e
    rw [upd_ne nb]
    exact I.base.free b o e n hx
  · obtain ⟨more, e2⟩ := I.base.tbls b ps e
    exact ⟨more, off e2⟩
  · rw [upd_ne (Ne.symm nL)]; exact I.free
  · have nc : c ≠ a := fun z => by
      obtain ⟨v, hv⟩ := I.cell x c e
      obtain ⟨o, h1, h2⟩ := hv
      rw [z, he] at h1
      cases h1
      simp [hd] at h2
    rw [upd_ne nc]
    exact I.freeC x c e
  · obtain ⟨h1, h2, h3⟩ := I.pin p hp
    exact ⟨h1, by rw [upd_ne (np p hp)]; exact h2, h3⟩
  · by_cases hb : b = a
    · subst hb
      rw [upd_same] at e
      cases e
      exact exI_ok he hz hd
    · rw [upd_ne hb] at e
      exact (I.hok b u e).stay (fun _ _ _ q => q) (fun c q => off q) fun c xs q => off q
end
/-- the wish for an exception that is caught, named, and kept behind the suite -/
def wKeep (K : PySem.W.Frag) (c : Value) (i : Nat) (ts : Addr → Value → Option Addr → TS) (D : Ends) : WX := fun cls d σ H =>
  PySem.W.exmOne K cls c = some true ∧ d = none ∧ ∀ a, H a = none → ts a cls d { nx := fun σ' H' => H' a = none ∧ D.nx (σ'.set i none) (upd H' a (ExI cls a)), rt := fun _ _ => False, bk := fun _ _ => False, ct := fun _ _ => False } (σ.set i (some (.ref a))) H
section
variable {X : Cx} {x n : Str} {c : Value} {i : Nat} {body suite : List Stmt} {b₀ : Stmt} {np pos pos' : Pos} {tb : WX → TS} {ts : Addr → Value → Option Addr → TS}
theorem ps_try_keep (hs : X.stack = X.env :: X.outer) (hf : X.env.frame = some X.env.locals) (hN : X.N.Nodup) (hi : X.N[i]? = some n) (hln : X.env.kindOf n = some .local) (hc : Names X x c) (hex : X.ex = [])
    (hb : ∀ (W : WX) (pn : List (Addr × Obj)) (xe : Value → Shared → Prop), Takes (X.tr pn xe) W → PassesOwn (model X.prog X.w) X.A X.env xe → PSs (X.tr pn xe) body (tb W))
    (hsu : ∀ (a : Addr) (oe : Obj) (cls : Value) (d : Option Addr) (pn : List (Addr × Obj)), Zc cls d oe → (∃ vs, oe.data = .fields vs) → PSs (X.suite a ((a, oe) :: pn)) (b₀ :: suite) (ts a cls d)) :
    PS X (.Try body [.ExceptHandler (some (.Name x np)) (some n) (b₀ :: suite) pos'] [] [] pos) (fun D σ H => tb (wKeep X.K c i ts D) D σ H) := by
  constructor
  intro pins s σ H D I h
  have okX := I.ok
  have frames : X.A.frames = some (X.env :: X.outer) := by rw [okX.frames, hs]
  refine wpAny_Try_except (wpAny_mono ((hb (wKeep X.K c i ts D) (X.pn ++ pins) (fun e s₁ => wpAny (model X.prog X.w) X.A (noteFrame e X.env) (fun _ s₂ => wpAny (model X.prog X.w) X.A (setFlight e none) (fun _ s₃ =>
    wpAny (model X.prog X.w) X.A (handleBy e X.env [.ExceptHandler (some (.Name x np)) (some n) (b₀ :: suite) pos']) (SP X pins D) X.xe s₃) X.xe s₂) X.xe s₁) (fun u s' met => ?_) PassesOwn.looking).run [] s σ H D (I.toTry _) h) (fun fl s1 ended => ?_) fun e s1 he => he)
  · obtain ⟨a, B, sI, pins', σ', H', cls, d, rfl, Jt, nb, up, sky, na, os, ag, hcls, rfl, hyes⟩ := met
    have J : Inv X pins σ' H' sI := Jt.ofTry okX
    have sk : Sky B (X.env :: X.outer) a (Zc cls none) X.env.locals s'.heap := by rw [← hs]; exact sky
    show wpAny (model X.prog X.w) X.A (noteFrame (.ref a) X.env) _ _ _
    refine Sky.land Zc.steady frames hf sk fun h3 held up3 => ?_
    have J3 : Inv X pins σ' H' { s' with heap := h3 } := J.landed nb held.1 (up.trans up3) os ag
    obtain ⟨o3, v3, g3, z3, f3⟩ := held.there
    have nfr : a ∉ frs (X.env :: X.outer) := fun hm => by
      obtain ⟨_, o', g', hnf⟩ := held.2.2.1.mem hm
      rw [g3] at g'; cases g'
      exact hnf _ f3
    have nL : a ≠ X.env.locals := fun z => nfr (List.mem_filterMap.mpr ⟨X.env, List.mem_cons_self, by rw [hf, z]⟩)
    have nF : a ∉ X.fs := fun hm => by
      obtain ⟨e, he, q⟩ := List.mem_filterMap.mp hm
      exact nfr (List.mem_filterMap.mpr ⟨e, List.mem_cons_of_mem _ he, q⟩)
    have newI : sI.heap.get? a = none := by
      cases q : sI.heap.get? a with
      | none => rfl
      | some o =>
        have z := nb a o q (by rw [hs]; exact nfr)
        rw [held.2.1] at z
        cases z
    have new0 : X.s_0.heap.get? a = none := by
      cases q : X.s_0.heap.get? a with
      | none => rfl
      | some o =>
        obtain ⟨o', z⟩ := J.base.there a o q (by rw [hex]; exact fun m => nomatch m)
        rw [newI] at z
        cases z
    have offP : ∀ p ∈ X.pn ++ pins, p.1 ≠ a := fun p hp z => by
      have e := (J.pin p hp).1
      rw [z, newI] at e
      cases e
    have S3 := J3.suite g3 f3 na nL nF
    refine wpAny_handleBy_cons (codeAny_handlers_test ?_) (by intro q; cases q)
    have LT : PySem.W.Looks (model X.prog X.w) h3 (typeOf (.ref a)) cls := fun A Q E s k q => wpAny_typeOf_ref (k _ _ g3) (by rw [z3.1]; exact q)
    have LM := PySem.W.exm_one (M := model X.prog X.w) (J3.kIn) LT hcls
    have named : ∀ {Q : Value → Shared → Prop} {E : Value → Shared → Prop}, Q c { s' with heap := h3 } → wpAny (model X.prog X.w) (X.A.mark (some (.ref a))) (eval (.Name x np) X.env) Q E { s' with heap := h3 } := fun {Q E} q => by
      obtain ⟨hg, hdbg, hm | ⟨hm, hv, hnn⟩⟩ := hc
      · exact ld_glob (X := X.suite a ((a, o3) :: (X.pn ++ pins))) S3 hg hm q hdbg
      · exact ld_blt (X := X.suite a ((a, o3) :: (X.pn ++ pins))) S3 hg hm hv q hnn hdbg
    refine named (LM.here (codeAny_handlers_suite_as (HandSPX.lands_againZ held fun h4 again up4 => ?_)))
    have J4 : Inv X pins σ' H' { s' with heap := h4 } := J.landed nb again.1 ((up.trans up3).trans up4) os ag
    obtain ⟨o4, v4, g4, z4, f4⟩ := again.there
    have S4 := J4.suite g4 f4 na nL nF
    refine store_ok (X := X.suite a ((a, o4) :: (X.pn ++ pins))) (v := .ref a) S4 hN hi (.inl hln) rfl (fun s5 S5 => ?_) (.inr hln)
    refine wpAny_mono ((hsu a o4 cls none (X.pn ++ pins) z4 ⟨_, f4⟩).run [] s5 _ H' _ S5 (hyes a na)) (fun fl s6 ended => ?_) fun _ _ z => False.elim z
    cases fl with
    | next =>
      obtain ⟨σ6, H6, S6, n6, q6⟩ := ended
      have P6 := S6.pin (a, o4) (List.mem_append_left _ List.mem_cons_self)
      have J6 : Inv X pins σ6 H6 s6 := S6.unsuite okX
      have K6 : Inv X pins σ6 (upd H6 a (ExI cls a)) s6 := keepE J6 n6 nL P6.1 z4 f4 new0 offP
      show wpAny (model X.prog X.w) X.A (do bindName X.env n .none; unbindBehindTheSuite X.env n pos') (fun _ s7 => _) X.xe s6
      exact gone_ok K6 hN hi hln fun s7 J7 => ⟨_, _, J7, q6⟩
    | brk => obtain ⟨_, _, _, z⟩ := ended; exact z.elim
    | cont => obtain ⟨_, _, _, z⟩ := ended; exact z.elim
    | ret u => obtain ⟨_, _, _, _, _, z⟩ := ended; exact z.elim
  · cases fl with
    | next =>
      obtain ⟨σ', H', J', q⟩ := ended
      exact wpAny_execs_nil ⟨σ', H', J'.ofTry okX, q⟩
    | brk => obtain ⟨σ', H', J', q⟩ := ended; exact ⟨σ', H', J'.ofTry okX, q⟩
    | cont => obtain ⟨σ', H', J', q⟩ := ended; exact ⟨σ', H', J'.ofTry okX, q⟩
    | ret u => obtain ⟨v, σ', H', J', r, q⟩ := ended; exact ⟨v, σ', H', J'.ofTry okX, r, q⟩
end
/-- isinstance of a kept exception: a class, or a tuple of classes -/
def rIsK (K : PySem.W.Frag) : List V → Hp → VK → Prop := fun xs H Q =>
  ∃ (a D : Addr) (c : V) (b : Bool), xs = [.ref a, c] ∧ H a = some (ExI (.ref D) a) ∧ ExcC K D ∧
    ((∃ u, ClsV c u ∧ PySem.W.kitOne K (.ref D) u = some b) ∨ ∃ (tp : Addr) (cs : List V) (us : List Value), c = .ref tp ∧ H tp = some (.tup cs) ∧ Paired ClsV cs us ∧ PySem.W.kitAny K (.ref D) us = some b) ∧ Q (.bl b) H
theorem call_isK {X : Cx} {K : PySem.W.Frag} (hK : X.K = K) : CallR X (.builtin "isinstance") (rIsK K) := by
  subst hK
  intro pins s σ H xs us Q I r h
  obtain ⟨a, D, c, b, rfl, ha, C, hc, q⟩ := h
  obtain ⟨u1, u2, rfl, r1, r2⟩ := vals2 r
  cases (show u1 = Value.ref a from r1)
  obtain ⟨⟨oe, vs, hget, hz, hv⟩, _⟩ := (show ObjOk X.prog X.w H s.heap a (ExI (.ref D) a) from I.hok a _ ha)
  have J : PySem.W.InstAt s.heap a oe D none := by
    obtain ⟨oc, od, oda, osl⟩ := oe
    obtain ⟨h1, h2⟩ := hz
    dsimp only at h1 h2 hv
    subst h1 h2 hv
    exact ⟨hget, rfl, rfl, trivial⟩
  have Z := PySem.W.handS_kitx_exc (x := a) (ox := oe) C.hg C.hk C.hs C.hd C.ha C.hn C.ht C.hm
  rcases hc with ⟨u, k, e⟩ | ⟨tp, cs, ws, rfl, hT, k, e⟩
  · have e2 := k.eq r2
    subst e2
    exact PySem.W.kia_one Z I.kIn J e (fun z => nomatch z) fun tk => ⟨.bl b, H, I.kept (t' := tk) fun _ _ z => z, rfl, q⟩
  · cases (show u2 = Value.ref tp from r2)
    obtain ⟨_, its, rv, o, h1, h2, n, h3⟩ := (show ObjOk X.prog X.w H s.heap tp (.tup cs) from I.hok tp _ hT)
    have e3 := ClsV.all k rv
    subst e3
    obtain ⟨oc, od, dt, sl⟩ := o
    simp only at h2 h3
    subst h2 h3
    exact PySem.W.kia_tup Z I.kIn J h1 e (fun z => nomatch z) fun tk => ⟨.bl b, H, I.kept (t' := tk) fun _ _ z => z, rfl, q⟩
theorem isK1 {K : PySem.W.Frag} {D a C : Addr} {b : Bool} {H : Hp} {Q : VK} (e : H a = some (ExI (.ref D) a)) (E : ExcC K D) (h : PySem.W.kitOne K (.ref D) (.ref C) = some b) (q : Q (.bl b) H) : rIsK K [.ref a, .ref C] H Q :=
  ⟨a, D, _, b, rfl, e, E, .inl ⟨_, .own C, h⟩, q⟩
theorem isKT {K : PySem.W.Frag} {D a : Addr} {n : String} {b : Bool} {H : Hp} {Q : VK} (e : H a = some (ExI (.ref D) a)) (E : ExcC K D) (h : PySem.W.kitOne K (.ref D) (.type n) = some b) (q : Q (.bl b) H) : rIsK K [.ref a, .ty n] H Q :=
  ⟨a, D, _, b, rfl, e, E, .inl ⟨_, .ty n, h⟩, q⟩
theorem isK2 {K : PySem.W.Frag} {D a p : Addr} {vs : List V} {cs : List Addr} {H : Hp} {Q : VK} (e : H a = some (ExI (.ref D) a)) (E : ExcC K D) (h : NoneOf K D cs) (et : H p = some (.tup vs)) (hv : vs = cs.map V.ref) (q : Q (.bl false) H) : rIsK K [.ref a, .ref p] H Q :=
  ⟨a, D, _, false, rfl, e, E, .inr ⟨p, _, _, rfl, by rw [et, hv], NoneOf.pair cs, h.any⟩, q⟩
theorem isN_ref {A B : Prop} {a : Addr} (b : B) : if decide (V.ref a = V.non) = true then A else B := by rw [if_neg (by rw [decide_eq_false (by intro e; cases e)]; exact Bool.false_ne_true)]; exact b
end Ur

namespace Ur
open PySem L2
/-! ### things of any kind, two deep: lists of tuples -/
structure K2 (L : Addr → Prop) (H : Hp) (v : V) : Prop where
  kind : Kind H v
  ne : ∀ b, L b → v ≠ .ref b
  tup : ∀ p ys, v = .ref p → H p = some (.tup ys) → ys.length ≤ 2000 ∧ Its L H ys
theorem K2.same {L : Addr → Prop} {H H' : Hp} {v : V} (t : K2 L H v) (s : Same H H') : K2 L H' v := ⟨t.kind.same s, t.ne, fun p ys e h => by
  subst e
  obtain ⟨o, ho⟩ := t.kind.some
  have z := s _ _ ho
  rw [h] at z
  cases z
  obtain ⟨l, f⟩ := t.tup p ys rfl ho
  exact ⟨l, f.same s⟩⟩
theorem K2.but {L : Addr → Prop} {a : Addr} {H H' : Hp} {v : V} (t : K2 L H v) (la : L a) (b : But a H H') : K2 L H' v := ⟨t.kind.but b (t.ne a la), t.ne, fun p ys e h => by
  subst e
  obtain ⟨o, ho⟩ := t.kind.some
  have z := b _ _ (fun z => t.ne a la (by rw [z])) ho
  rw [h] at z
  cases z
  obtain ⟨l, f⟩ := t.tup p ys rfl ho
  exact ⟨l, f.but la b⟩⟩
theorem K2.of {L : Addr → Prop} {H : Hp} {v : V} (k : Kind H v) (n : ∀ b, L b → v ≠ .ref b) (f : ∀ p ys, v = .ref p → H p ≠ some (.tup ys)) : K2 L H v := ⟨k, n, fun p ys e h => (f p ys e h).elim⟩
theorem K2.int {L : Addr → Prop} {H : Hp} {i : Int} : K2 L H (.int i) := .of .int (fun _ _ z => nomatch z) fun _ _ z => nomatch z
theorem K2.bl {L : Addr → Prop} {H : Hp} {c : Bool} : K2 L H (.bl c) := .of .bl (fun _ _ z => nomatch z) fun _ _ z => nomatch z
theorem K2.str {L : Addr → Prop} {H : Hp} {x : Str} : K2 L H (.str x) := .of .str (fun _ _ z => nomatch z) fun _ _ z => nomatch z
theorem K2.non {L : Addr → Prop} {H : Hp} : K2 L H .non := .of .non (fun _ _ z => nomatch z) fun _ _ z => nomatch z
theorem K2.lst {L : Addr → Prop} {H : Hp} {p : Addr} {xs : List V} (e : H p = some (.lst xs)) (n : ∀ b, L b → p ≠ b) : K2 L H (.ref p) := .of (.lst e) (neV n) fun q ys z h => by cases z; rw [e] at h; cases h
theorem K2.dct {L : Addr → Prop} {H : Hp} {p : Addr} {xs : List (Key × V)} (e : H p = some (.dK xs)) (n : ∀ b, L b → p ≠ b) : K2 L H (.ref p) := .of (.dct e) (neV n) fun q ys z h => by cases z; rw [e] at h; cases h
theorem K2.tpl {L : Addr → Prop} {H : Hp} {p : Addr} {ys : List V} (e : H p = some (.tup ys)) (n : ∀ b, L b → p ≠ b) (l : ys.length ≤ 2000) (t : Its L H ys) : K2 L H (.ref p) :=
  ⟨.tup e, neV n, fun q zs z h => by cases z; rw [e] at h; cases h; exact ⟨l, t⟩⟩
structure I2 (L : Addr → Prop) (H : Hp) (xs : List V) : Prop where
  all : ∀ x ∈ xs, K2 L H x
theorem I2.nil {L : Addr → Prop} {H : Hp} : I2 L H [] := ⟨fun _ h => nomatch h⟩
theorem I2.sub {L : Addr → Prop} {H : Hp} {xs ys : List V} (t : I2 L H xs) (f : ∀ y ∈ ys, y ∈ xs) : I2 L H ys := ⟨fun y h => t.all y (f y h)⟩
theorem I2.app {L : Addr → Prop} {H : Hp} {xs ys : List V} (t : I2 L H xs) (u : I2 L H ys) : I2 L H (xs ++ ys) := ⟨fun y h => by
  rcases List.mem_append.mp h with k | k
  · exact t.all y k
  · exact u.all y k⟩
theorem I2.one {L : Addr → Prop} {H : Hp} {x : V} (k : K2 L H x) : I2 L H [x] := ⟨fun y h => by rw [List.mem_singleton.mp h]; exact k⟩
theorem I2.same {L : Addr → Prop} {H H' : Hp} {xs : List V} (t : I2 L H xs) (s : Same H H') : I2 L H' xs := ⟨fun x h => (t.all x h).same s⟩
theorem I2.but {L : Addr → Prop} {a : Addr} {H H' : Hp} {xs : List V} (t : I2 L H xs) (l : L a) (b : But a H H') : I2 L H' xs := ⟨fun x h => (t.all x h).but l b⟩
structure T2 (L : Addr → Prop) (H : Hp) (v : V) : Prop where
  kind : Kind H v
  ne : ∀ b, L b → v ≠ .ref b
  items : ∀ p xs, v = .ref p → H p = some (.lst xs) → xs.length ≤ 2000 ∧ I2 L H xs
theorem T2.same {L : Addr → Prop} {H H' : Hp} {v : V} (t : T2 L H v) (s : Same H H') : T2 L H' v := ⟨t.kind.same s, t.ne, fun p xs e h => by
  subst e
  obtain ⟨o, ho⟩ := t.kind.some
  have z := s _ _ ho
  rw [h] at z
  cases z
  obtain ⟨l, f⟩ := t.items p xs rfl ho
  exact ⟨l, f.same s⟩⟩
theorem T2.but {L : Addr → Prop} {a : Addr} {H H' : Hp} {v : V} (t : T2 L H v) (la : L a) (b : But a H H') : T2 L H' v := ⟨t.kind.but b (t.ne a la), t.ne, fun p xs e h => by
  subst e
  obtain ⟨o, ho⟩ := t.kind.some
  have z := b _ _ (fun z => t.ne a la (by rw [z])) ho
  rw [h] at z
  cases z
  obtain ⟨l, f⟩ := t.items p xs rfl ho
  exact ⟨l, f.but la b⟩⟩
theorem T2.lst {L : Addr → Prop} {H : Hp} {p : Addr} {xs : List V} (e : H p = some (.lst xs)) (n : ∀ b, L b → p ≠ b) (l : xs.length ≤ 2000) (t : I2 L H xs) : T2 L H (.ref p) :=
  ⟨.lst e, neV n, fun q ys z h => by cases z; rw [e] at h; cases h; exact ⟨l, t⟩⟩
theorem T2.of {L : Addr → Prop} {H : Hp} {v : V} (k : Kind H v) (n : ∀ b, L b → v ≠ .ref b) (f : ∀ p xs, v = .ref p → H p ≠ some (.lst xs)) : T2 L H v := ⟨k, n, fun p xs e h => (f p xs e h).elim⟩
/-- the two whole numbers of a tuple -/
def pairOf (H : Hp) : V → Option (Int × Int)
  | .ref p => match H p with
    | some (.tup [.int f, .int b]) => some (f, b)
    | _ => none
  | _ => none
theorem pairOf_is {H : Hp} {p : Addr} {f b : Int} (e : H p = some (.tup [.int f, .int b])) : pairOf H (.ref p) = some (f, b) := by simp only [pairOf, e]
theorem pairOf_ex {H : Hp} {v : V} {f b : Int} (h : pairOf H v = some (f, b)) : ∃ p, v = .ref p ∧ H p = some (.tup [.int f, .int b]) := by
  cases v with
  | ref p =>
    simp only [pairOf] at h
    split at h
    · next e => cases h; exact ⟨p, rfl, e⟩
    · cases h
  | _ => cases h
theorem K2.pair {L : Addr → Prop} {H H' : Hp} {v : V} (t : K2 L H v) (s : Same H H') : pairOf H' v = pairOf H v := by
  cases h : pairOf H v with
  | some q =>
    obtain ⟨f, b⟩ := q
    obtain ⟨p, rfl, e⟩ := pairOf_ex h
    exact pairOf_is (s _ _ e)
  | none =>
    cases h2 : pairOf H' v with
    | none => rfl
    | some q =>
      obtain ⟨f, b⟩ := q
      obtain ⟨p, rfl, e⟩ := pairOf_ex h2
      obtain ⟨o, ho⟩ := t.kind.some
      have z := s _ _ ho
      rw [e] at z
      cases z
      rw [pairOf_is ho] at h
      cases h
theorem pairOf_no {H : Hp} {v : V} (n : ∀ p ys, v = .ref p → H p ≠ some (.tup ys)) : pairOf H v = none := by
  cases h : pairOf H v with
  | none => rfl
  | some q =>
    obtain ⟨f, b⟩ := q
    obtain ⟨p, e, z⟩ := pairOf_ex h
    exact (n p _ e z).elim
theorem pairOf_len {H : Hp} {p : Addr} {ys : List V} (e : H p = some (.tup ys)) (n : ys.length ≠ 2) : pairOf H (.ref p) = none := by
  cases h : pairOf H (.ref p) with
  | none => rfl
  | some q =>
    obtain ⟨f, b⟩ := q
    obtain ⟨p', e', z⟩ := pairOf_ex h
    cases e'
    rw [e] at z
    cases z
    exact (n rfl).elim
theorem pairOf_two {H : Hp} {p : Addr} {x y : V} (e : H p = some (.tup [x, y])) (n : (∀ i, x ≠ .int i) ∨ ∀ i, y ≠ .int i) : pairOf H (.ref p) = none := by
  cases h : pairOf H (.ref p) with
  | none => rfl
  | some q =>
    obtain ⟨f, b⟩ := q
    obtain ⟨p', e', z⟩ := pairOf_ex h
    cases e'
    rw [e] at z
    cases z
    rcases n with n | n
    · exact (n f rfl).elim
    · exact (n b rfl).elim
theorem two_of {ys : List V} (h : ys.length = 2) : ∃ x y, ys = [x, y] := by
  match ys, h with
  | [x, y], _ => exact ⟨x, y, rfl⟩
/-! papers that fewer can't do -/
def prevW (H : Hp) (xs : List V) : Nat → Int
  | 0 => 0
  | i + 1 => match xs[i]? with
    | some x => match pairOf H x with
      | some (_, b) => b - 1
      | none => 0
    | none => 0
theorem prevW_s {H : Hp} {xs : List V} {i : Nat} {x : V} {f b : Int} (h : xs[i]? = some x) (e : pairOf H x = some (f, b)) : prevW H xs (i + 1) = b - 1 := by
  simp only [prevW, h, e]
def WAt (H : Hp) (ns : List Int) (m : Int) (xs : List V) (i : Nat) (x : V) : Prop := ∃ f b : Int, pairOf H x = some (f, b) ∧ prevW H xs i ≤ f ∧ 0 ≤ f ∧ f ≤ b ∧ b ≤ ns.length ∧ m < (wunN ns f.toNat b.toNat : Int)
def ByOk (H : Hp) (ns : List Int) (m : Int) (v : V) : Prop := ∃ p xs, v = .ref p ∧ H p = some (.lst xs) ∧ ∀ i x, xs[i]? = some x → WAt H ns m xs i x
def ByR (H : Hp) (ns : List Int) (m : Int) (v r : V) : Prop := (∃ p xs, v = .ref p ∧ H p = some (.lst xs) ∧ (∀ i x, xs[i]? = some x → WAt H ns m xs i x) ∧ r = .int ((xs.length : Int) + if ns = [] then 0 else 1)) ∨ (r = .non ∧ ¬ ByOk H ns m v)
theorem ByR.ex (H : Hp) (ns : List Int) (m : Int) (v : V) : ∃ r, ByR H ns m v r := by
  by_cases h : ByOk H ns m v
  · obtain ⟨p, xs, e, k, f⟩ := h
    exact ⟨_, .inl ⟨p, xs, e, k, f, rfl⟩⟩
  · exact ⟨.non, .inr ⟨rfl, h⟩⟩
theorem ByR.off {H : Hp} {ns : List Int} {m : Int} {v r : V} (h : ByR H ns m v r) (n : ∀ p xs, v = .ref p → H p ≠ some (.lst xs)) : r = .non := by
  rcases h with ⟨p, xs, e, k, _⟩ | ⟨e, _⟩
  · exact (n p xs e k).elim
  · exact e
theorem ByR.bad {H : Hp} {ns : List Int} {m : Int} {p : Addr} {r : V} {xs : List V} {i : Nat} {x : V} (h : ByR H ns m (.ref p) r) (e : H p = some (.lst xs)) (hx : xs[i]? = some x) (n : ¬ WAt H ns m xs i x) : r = .non := by
  rcases h with ⟨q, ys, z, k, f, _⟩ | ⟨z, _⟩
  · cases z
    rw [e] at k
    cases k
    exact (n (f i x hx)).elim
  · exact z
theorem ByR.good {H : Hp} {ns : List Int} {m : Int} {p : Addr} {r : V} {xs : List V} (h : ByR H ns m (.ref p) r) (e : H p = some (.lst xs)) (f : ∀ i x, xs[i]? = some x → WAt H ns m xs i x) : r = .int ((xs.length : Int) + if ns = [] then 0 else 1) := by
  rcases h with ⟨q, ys, z, k, _, g⟩ | ⟨_, n⟩
  · cases z
    rw [e] at k
    cases k
    exact g
  · exact (n ⟨p, xs, rfl, e, f⟩).elim
theorem prevW_same {L : Addr → Prop} {H H' : Hp} {xs : List V} (t : I2 L H xs) (s : Same H H') : ∀ i, prevW H' xs i = prevW H xs i
  | 0 => rfl
  | i + 1 => by
    simp only [prevW]
    cases h : xs[i]? with
    | none => rfl
    | some x => simp only [(t.all x (List.mem_of_getElem? h)).pair s]
theorem WAt.same {L : Addr → Prop} {H H' : Hp} {ns : List Int} {m : Int} {xs : List V} (t : I2 L H xs) (s : Same H H') {i : Nat} {x : V} (hx : xs[i]? = some x) : WAt H' ns m xs i x ↔ WAt H ns m xs i x := by
  unfold WAt
  rw [prevW_same t s, (t.all x (List.mem_of_getElem? hx)).pair s]
theorem ByR.same {L : Addr → Prop} {H H' : Hp} {ns : List Int} {m : Int} {v r : V} (h : ByR H ns m v r) (t : T2 L H v) (s : Same H H') : ByR H' ns m v r := by
  rcases h with ⟨p, xs, e, k, f, g⟩ | ⟨e, n⟩
  · exact .inl ⟨p, xs, e, s _ _ k, fun i x hx => (WAt.same (t.items p xs e k).2 s hx).mpr (f i x hx), g⟩
  · refine .inr ⟨e, fun ⟨p, xs, e2, k, f⟩ => n ?_⟩
    subst e2
    obtain ⟨o, ho⟩ := t.kind.some
    have w := s _ _ ho
    rw [k] at w
    cases w
    exact ⟨p, xs, rfl, ho, fun i x hx => (WAt.same (t.items p xs rfl ho).2 s hx).mp (f i x hx)⟩
theorem wunN_wide {ns : List Int} {f b : Nat} : wunN ns f b ≤ b - f := by
  have h := ulen_le ((ns.drop f).take (b - f))
  rw [List.length_take] at h
  have e : wunN ns f b = ulen ((ns.drop f).take (b - f)) := rfl
  omega
/-- pairs of whole numbers, none of them there in B -/
structure Prs (B H : Hp) (ls : List Addr) : Prop where
  all : ∀ l ∈ ls, B l = none ∧ ∃ f b : Int, H l = some (.tup [.int f, .int b])
theorem Prs.nil {B H : Hp} : Prs B H [] := ⟨fun _ h => nomatch h⟩
theorem Prs.same {B H H' : Hp} {ls : List Addr} (p : Prs B H ls) (s : Same H H') : Prs B H' ls := ⟨fun l h => by
  obtain ⟨n, f, b, e⟩ := p.all l h
  exact ⟨n, f, b, s _ _ e⟩⟩
theorem Prs.step {B H H' : Hp} {a : Addr} {xs : List V} {ls : List Addr} (p : Prs B H ls) (ha : H a = some (.lst xs)) (bb : But a H H') : Prs B H' ls := ⟨fun l h => by
  obtain ⟨n, f, b, e⟩ := p.all l h
  exact ⟨n, f, b, bb _ _ (fun z => by rw [z, ha] at e; cases e) e⟩⟩
theorem Prs.snoc {B H : Hp} {ls : List Addr} {l : Addr} {f b : Int} (p : Prs B H ls) (n : B l = none) (e : H l = some (.tup [.int f, .int b])) : Prs B H (ls ++ [l]) := ⟨fun x h => by
  rcases List.mem_append.mp h with k | k
  · exact p.all x k
  · rw [List.mem_singleton.mp k]; exact ⟨n, f, b, e⟩⟩
theorem Prs.items {L : Addr → Prop} {B H : Hp} {ls : List Addr} (p : Prs B H ls) (o : Old L B) : I2 L H (ls.map V.ref) := ⟨fun x h => by
  obtain ⟨l, hl, rfl⟩ := List.mem_map.mp h
  obtain ⟨n, f, b, e⟩ := p.all l hl
  exact .tpl e (o.free n) (by simp) (Its.ints [f, b])⟩
theorem Prs.base {B C H : Hp} {ls : List Addr} (p : Prs B H ls) (s : Same C B) : Prs C H ls := ⟨fun l h => ⟨s.free (p.all l h).1, (p.all l h).2⟩⟩
theorem Prs.any {B H : Hp} {ls : List Addr} (p : Prs B H ls) : Prs (fun _ => none) H ls := ⟨fun l h => ⟨rfl, (p.all l h).2⟩⟩
theorem refs_of {H : Hp} : ∀ {ys : List V}, (∀ y ∈ ys, (pairOf H y).isSome = true) → ∃ ls : List Addr, ys = ls.map V.ref ∧ Prs (fun _ => none) H ls
  | [], _ => ⟨[], rfl, .nil⟩
  | y :: ys, h => by
    obtain ⟨ls, e, p⟩ := refs_of (ys := ys) fun z hz => h z (List.mem_cons_of_mem _ hz)
    have hy := h y List.mem_cons_self
    cases hp : pairOf H y with
    | none => rw [hp] at hy; cases hy
    | some q =>
      obtain ⟨f, b⟩ := q
      obtain ⟨l, rfl, el⟩ := pairOf_ex hp
      refine ⟨l :: ls, by rw [e]; rfl, ⟨fun x hx => ?_⟩⟩
      rcases List.mem_cons.mp hx with rfl | k
      · exact ⟨rfl, f, b, el⟩
      · exact p.all x k
theorem ByR.not {H : Hp} {ns : List Int} {m : Int} {v : V} (n : ∀ p xs, v = .ref p → H p ≠ some (.lst xs)) : ByR H ns m v .non := .inr ⟨rfl, fun ⟨p, xs, e, k, _⟩ => n p xs e k⟩
end Ur

namespace Ur
open PySem L2 PySem.Spec PyProof.Rows
/-! ### things that are tables -/
structure TT (L : Addr → Prop) (H : Hp) (v : V) : Prop where
  kind : Kind H v
  ne : ∀ b, L b → v ≠ .ref b
  items : ∀ p xs, v = .ref p → H p = some (.lst xs) → xs.length ≤ 2000 ∧ ∀ x ∈ xs, Th L H x
theorem TT.same {L : Addr → Prop} {H H' : Hp} {v : V} (t : TT L H v) (s : Same H H') : TT L H' v := ⟨t.kind.same s, t.ne, fun p xs e h => by
  subst e
  obtain ⟨o, ho⟩ := t.kind.some
  have z := s _ _ ho
  rw [h] at z
  cases z
  obtain ⟨l, f⟩ := t.items p xs rfl ho
  exact ⟨l, fun x hx => (f x hx).same s⟩⟩
theorem TT.lst {L : Addr → Prop} {H : Hp} {p : Addr} {xs : List V} (e : H p = some (.lst xs)) (n : ∀ b, L b → p ≠ b) (l : xs.length ≤ 2000) (t : ∀ x ∈ xs, Th L H x) : TT L H (.ref p) :=
  ⟨.lst e, neV n, fun q ys z h => by cases z; rw [e] at h; cases h; exact ⟨l, t⟩⟩
theorem TT.of {L : Addr → Prop} {H : Hp} {v : V} (k : Kind H v) (n : ∀ b, L b → v ≠ .ref b) (f : ∀ p xs, v = .ref p → H p ≠ some (.lst xs)) : TT L H v := ⟨k, n, fun p xs e h => (f p xs e h).elim⟩
/-- lines of whole numbers, each one shorter -/
def ShAt (H : Hp) (xs : List V) (j : Nat) (x : V) : Prop := ∃ (q : Addr) (ms : List Int), x = .ref q ∧ H q = some (.lst (ms.map V.int)) ∧ ms.length = xs.length - j
def ShOk (H : Hp) (v : V) : Prop := ∃ p xs, v = .ref p ∧ H p = some (.lst xs) ∧ xs ≠ [] ∧ ∀ j x, xs[j]? = some x → ShAt H xs j x
def ShB (H : Hp) (v : V) (b : Bool) : Prop := b = true ↔ ShOk H v
theorem ShB.ex (H : Hp) (v : V) : ∃ b, ShB H v b := by
  by_cases h : ShOk H v
  · exact ⟨true, fun _ => h, fun _ => rfl⟩
  · exact ⟨false, fun e => Bool.noConfusion e, fun k => (h k).elim⟩
theorem ShB.off {H : Hp} {v : V} {b : Bool} (h : ShB H v b) (n : ¬ ShOk H v) : b = false := by
  cases b with
  | false => rfl
  | true => exact (n (h.mp rfl)).elim
theorem ShOk.at {H : Hp} {p : Addr} {xs : List V} (e : H p = some (.lst xs)) (h : ShOk H (.ref p)) : xs ≠ [] ∧ ∀ j x, xs[j]? = some x → ShAt H xs j x := by
  obtain ⟨q, ys, z, k, f⟩ := h
  cases z
  rw [e] at k
  cases k
  exact f
/-- the whole numbers of a list -/
def lineAt (H : Hp) (q : Addr) : List Int := match H q with
  | some (.lst xs) => xs.filterMap fun
    | .int n => some n
    | _ => none
  | _ => []
theorem lineAt_is {H : Hp} {q : Addr} {ms : List Int} (e : H q = some (.lst (ms.map V.int))) : lineAt H q = ms := by
  simp only [lineAt, e]
  clear e
  induction ms with
  | nil => rfl
  | cons m ms ih => rw [List.map_cons, List.filterMap_cons]; simp only [ih]
theorem refs_at {H : Hp} : ∀ {xs : List V}, (∀ x ∈ xs, ∃ q ms, x = V.ref q ∧ H q = some (.lst ((ms : List Int).map V.int))) → ∃ ls : List Addr, xs = ls.map V.ref
  | [], _ => ⟨[], rfl⟩
  | x :: xs, h => by
    obtain ⟨q, ms, rfl, _⟩ := h x List.mem_cons_self
    obtain ⟨ls, e⟩ := refs_at fun y hy => h y (List.mem_cons_of_mem _ hy)
    exact ⟨q :: ls, by rw [e]; rfl⟩
theorem ShOk.rows {H : Hp} {v : V} (h : ShOk H v) : ∃ (p : Addr) (ls : List Addr) (n : Nat) (F : Nat → List Int), v = .ref p ∧ H p = some (.lst (ls.map V.ref)) ∧ RowsF H ls (n + 1) F ∧ ∀ k, k ≤ n → (F k).length = n + 1 - k := by
  obtain ⟨p, xs, rfl, e, ne, f⟩ := h
  obtain ⟨ls, rfl⟩ := refs_at (H := H) (xs := xs) fun x hx => by
    obtain ⟨j, hj⟩ := List.mem_iff_getElem?.mp hx
    obtain ⟨q, ms, e1, e2, _⟩ := f j x hj
    exact ⟨q, ms, e1, e2⟩
  cases hl : ls with
  | nil => rw [hl] at ne; exact (ne rfl).elim
  | cons l lt =>
    have hlen : ls.length = lt.length + 1 := by rw [hl]; rfl
    have row : ∀ k q, ls[k]? = some q → ∃ ms : List Int, H q = some (.lst (ms.map V.int)) ∧ ms.length = ls.length - k := fun k q hq => by
      obtain ⟨q', ms, e1, e2, e3⟩ := f k (.ref q) (by rw [List.getElem?_map, hq]; rfl)
      cases e1
      rw [List.length_map] at e3
      exact ⟨ms, e2, e3⟩
    refine ⟨p, ls, lt.length, fun k => lineAt H (ls.getD k 0), rfl, e, ⟨hlen, fun k q hq => ?_⟩, fun k hk => ?_⟩
    · obtain ⟨ms, e2, _⟩ := row k q hq
      have : ls.getD k 0 = q := by rw [List.getD_eq_getElem?_getD, hq]; rfl
      rw [this, lineAt_is e2]
      exact e2
    · have hq := List.getElem?_eq_getElem (l := ls) (i := k) (by omega)
      obtain ⟨ms, e2, e3⟩ := row k _ hq
      have : ls.getD k 0 = ls[k] := by rw [List.getD_eq_getElem?_getD, hq]; rfl
      show (lineAt H (ls.getD k 0)).length = _
      rw [this, lineAt_is e2, e3, hlen]
theorem refs_inj' {ls ms : List Addr} (h : some (HO.lst (ls.map V.ref)) = some (HO.lst (ms.map V.ref))) : ls = ms := by
  injection h with h
  injection h with h
  exact (List.map_inj_right (fun _ _ e => by injection e)).mp h
def IsTab (H : Hp) (v : V) (r : List Int) : Prop := ∃ (p : Addr) (ls : List Addr), v = .ref p ∧ H p = some (.lst (ls.map V.ref)) ∧ RowsF H ls (r.length + 1) (lineW r)
theorem IsTab.sh {H : Hp} {v : V} {r : List Int} (h : IsTab H v r) : ShOk H v := by
  obtain ⟨p, ls, rfl, e, rw⟩ := h
  have hl := rw.len
  refine ⟨p, _, rfl, e, fun z => ?_, fun j x hx => ?_⟩
  · have := congrArg List.length z
    rw [List.length_map, hl] at this
    cases this
  · rw [List.getElem?_map] at hx
    obtain ⟨q, hq, rfl⟩ := Option.map_eq_some_iff.mp hx
    have hj := (List.getElem?_eq_some_iff.mp hq).1
    exact ⟨q, lineW r j, rfl, rw.row j q hq, by rw [lineW_len, List.length_map, hl]; omega⟩
/-- the last places that lines tell -/
def lbv (F : Nat → List Int) (n : Nat) : List Int := (List.range n).map fun i => (((List.range (i + 1)).filter fun k => decide ((F k).getD (i - k) 0 = (F k).getD (i - k + 1) 0)).length : Int) - 1
theorem lbv_len (F : Nat → List Int) (n : Nat) : (lbv F n).length = n := by simp [lbv]
theorem lbv_get {F : Nat → List Int} {n i : Nat} (h : i < n) : (lbv F n)[i]? = some ((((List.range (i + 1)).filter fun k => decide ((F k).getD (i - k) 0 = (F k).getD (i - k + 1) 0)).length : Int) - 1) := by
  unfold lbv
  rw [List.getElem?_map, List.getElem?_range h]
  rfl
theorem lbv_line (r : List Int) : lbv (lineW r) r.length = lastP r := by
  refine List.ext_getElem? fun i => ?_
  by_cases h : i < r.length
  · rw [lbv_get h, lastP_get h]
    have e : ∀ k ∈ List.range (i + 1), decide ((lineW r k).getD (i - k) 0 = (lineW r k).getD (i - k + 1) 0) = decide ((wunN r k i : Int) = (wunN r k (i + 1) : Int)) := fun k hk => by
      have hk2 := List.mem_range.mp hk
      rw [lineW_getD (by omega), lineW_getD (by omega), show k + (i - k) = i by omega, show k + (i - k + 1) = i + 1 by omega]
    rw [List.filter_congr e, lines_last h]
    rfl
  · rw [List.getElem?_eq_none (by rw [lbv_len]; omega), List.getElem?_eq_none (by rw [lastP_len]; omega)]
theorem eqvAll_map {α : Type} (f g : α → PyData) : ∀ xs : List α, PyData.eqvAll (xs.map f) (xs.map g) = xs.all fun k => PyData.eqv (f k) (g k)
  | [] => rfl
  | x :: xs => by
    show (PyData.eqv (f x) (g x) && PyData.eqvAll (xs.map f) (xs.map g)) = _
    rw [eqvAll_map f g xs, List.all_cons]
theorem eqv_rows2 (n : Nat) (F G : Nat → List Int) : PyData.eqv (.list (rowsD n F)) (.list (rowsD n G)) = decide (∀ k, k < n → F k = G k) := by
  show PyData.eqvAll (rowsD n F) (rowsD n G) = _
  unfold rowsD
  rw [eqvAll_map]
  by_cases h : ∀ k, k < n → F k = G k
  · rw [decide_eq_true h]
    refine List.all_eq_true.mpr fun k hk => ?_
    rw [eqv_ints, decide_eq_true (h k (List.mem_range.mp hk))]
  · rw [decide_eq_false h]
    refine Bool.eq_false_iff.mpr fun z => h fun k hk => ?_
    have := List.all_eq_true.mp z k (List.mem_range.mpr hk)
    rw [eqv_ints] at this
    exact of_decide_eq_true this
theorem rNe_rows2 {K : PySem.W.Frag} {H : Hp} {a b : Addr} {ls ms : List Addr} {n : Nat} {F G : Nat → List Int} {Q : VK} (h1 : SqL K H a (ls.map V.ref)) (h2 : SqL K H b (ms.map V.ref)) (r1 : RowsF H ls n F) (r2 : RowsF H ms n G) (q : Q (.bl (!decide (∀ k, k < n → F k = G k))) H) : rNeD K (.ref a) (.ref b) H Q :=
  ⟨_, _, dp_rows h1 r1, dp_rows h2 r2, shaped_rows _ _, shaped_rows _ _, by rw [eqv_rows2]; exact q⟩
theorem rEq_rows2 {K : PySem.W.Frag} {H : Hp} {a b : Addr} {ls ms : List Addr} {n : Nat} {F G : Nat → List Int} {Q : VK} (h1 : SqL K H a (ls.map V.ref)) (h2 : SqL K H b (ms.map V.ref)) (r1 : RowsF H ls n F) (r2 : RowsF H ms n G) (q : Q (.bl (decide (∀ k, k < n → F k = G k))) H) : rEqD K (.ref a) (.ref b) H Q :=
  ⟨_, _, dp_rows h1 r1, dp_rows h2 r2, shaped_rows _ _, shaped_rows _ _, by rw [eqv_rows2]; exact q⟩
/-- two rows of one table have the same last places -/
theorem tab_lasts {r s : List Int} (hl : r.length = s.length) (h : ∀ k, k < r.length + 1 → lineW r k = lineW s k) : lastP r = lastP s := by
  rw [← lbv_line r, ← lbv_line s, ← hl]
  refine List.ext_getElem? fun i => ?_
  by_cases hi : i < r.length
  · rw [lbv_get hi, lbv_get hi]
    have e : ∀ k ∈ List.range (i + 1), decide ((lineW r k).getD (i - k) 0 = (lineW r k).getD (i - k + 1) 0) = decide ((lineW s k).getD (i - k) 0 = (lineW s k).getD (i - k + 1) 0) := fun k hk => by
      rw [h k (by have := List.mem_range.mp hk; omega)]
    rw [List.filter_congr e]
  · rw [List.getElem?_eq_none (by rw [lbv_len]; omega), List.getElem?_eq_none (by rw [lbv_len]; omega)]
end Ur

namespace Ur
open PySem L2 PySem.Spec PyProof.Rows
theorem IsTab.same {H H' : Hp} {v : V} {r : List Int} (h : IsTab H v r) (s : Same H H') : IsTab H' v r := by
  obtain ⟨p, ls, rfl, e, rr⟩ := h
  exact ⟨p, ls, rfl, s _ _ e, rr.same s⟩
/-- rows of one table have one plain row -/
theorem IsTab.plain {H : Hp} {v : V} {r s : List Int} (h : IsTab H v r) (g : IsTab H v s) : plainP r = plainP s ∧ r.length = s.length ∧ ∀ k, k < r.length + 1 → lineW r k = lineW s k := by
  obtain ⟨p, ls, rfl, e, rr⟩ := h
  obtain ⟨p2, ms, z, e2, rs⟩ := g
  cases z
  rw [e] at e2
  have hm := refs_inj' e2
  subst hm
  have hl : r.length = s.length := by have a := rr.len; have b := rs.len; omega
  have hk : ∀ k, k < r.length + 1 → lineW r k = lineW s k := fun k hk => by
    have hq := List.getElem?_eq_getElem (l := ls) (i := k) (by have := rr.len; omega)
    have a := rr.row k _ hq
    rw [rs.row k _ hq] at a
    injection a with a
    injection a with a
    exact ((List.map_inj_right (fun _ _ e => by injection e)).mp a).symm
  exact ⟨plain_of_lasts (tab_lasts hl hk), hl, hk⟩
theorem lines_plain {r s : List Int} (h : plainP r = plainP s) : r.length = s.length ∧ ∀ k, lineW r k = lineW s k :=
  ⟨by rw [← plainP_len r, h, plainP_len], fun k => by rw [← lineW_plain r, h, lineW_plain]⟩
theorem lines_plain' {r s : List Int} (hl : r.length = s.length) (h : ∀ k, k < r.length + 1 → lineW r k = lineW s k) : plainP r = plainP s := plain_of_lasts (tab_lasts hl h)
theorem eqvAll_len : ∀ {xs ys : List PyData}, xs.length ≠ ys.length → PyData.eqvAll xs ys = false
  | [], [], h => (h rfl).elim
  | [], _ :: _, _ => rfl
  | _ :: _, [], _ => rfl
  | x :: xs, y :: ys, h => by
    show (PyData.eqv x y && PyData.eqvAll xs ys) = false
    rw [eqvAll_len (fun z => h (congrArg (· + 1) z)), Bool.and_false]
theorem eqv_tabs (r s : List Int) : PyData.eqv (.list (rowsD (r.length + 1) (lineW r))) (.list (rowsD (s.length + 1) (lineW s))) = decide (plainP r = plainP s) := by
  by_cases h : plainP r = plainP s
  · obtain ⟨hl, hk⟩ := lines_plain h
    rw [decide_eq_true h, ← hl, eqv_rows2]
    exact decide_eq_true fun k _ => hk k
  · rw [decide_eq_false h]
    by_cases hl : r.length = s.length
    · rw [← hl, eqv_rows2]
      exact decide_eq_false fun z => h (lines_plain' hl z)
    · show PyData.eqvAll _ _ = false
      exact eqvAll_len (by rw [rowsD, rowsD, List.length_map, List.length_map, List.length_range, List.length_range]; omega)
theorem rEq_tabs {K : PySem.W.Frag} {H : Hp} {a b : Addr} {ls ms : List Addr} {r s : List Int} {Q : VK} (h1 : SqL K H a (ls.map V.ref)) (h2 : SqL K H b (ms.map V.ref)) (r1 : RowsF H ls (r.length + 1) (lineW r)) (r2 : RowsF H ms (s.length + 1) (lineW s)) (q : Q (.bl (decide (plainP r = plainP s))) H) : rEqD K (.ref a) (.ref b) H Q :=
  ⟨_, _, dp_rows h1 r1, dp_rows h2 r2, shaped_rows _ _, shaped_rows _ _, by rw [eqv_tabs]; exact q⟩
theorem rNe_tabs {K : PySem.W.Frag} {H : Hp} {a b : Addr} {ls ms : List Addr} {r s : List Int} {Q : VK} (h1 : SqL K H a (ls.map V.ref)) (h2 : SqL K H b (ms.map V.ref)) (r1 : RowsF H ls (r.length + 1) (lineW r)) (r2 : RowsF H ms (s.length + 1) (lineW s)) (h : plainP r = plainP s) (q : Q (.bl false) H) : rNeD K (.ref a) (.ref b) H Q :=
  ⟨_, _, dp_rows h1 r1, dp_rows h2 r2, shaped_rows _ _, shaped_rows _ _, by rw [eqv_tabs, decide_eq_true h]; exact q⟩
theorem plain_plain (r : List Int) : plainP (plainP r) = plainP r := plain_of_lasts (lastP_plain r)
theorem tab_of {H : Hp} {p : Addr} {ls : List Addr} {r s : List Int} (e : H p = some (.lst (ls.map V.ref))) (rr : RowsF H ls (r.length + 1) (lineW r)) (h : plainP r = plainP s) : IsTab H (.ref p) s := by
  obtain ⟨hl, hk⟩ := lines_plain h
  exact ⟨p, ls, rfl, e, rr.cast (by rw [hl]) fun k _ => hk k⟩
theorem tt_of {H : Hp} {p : Addr} {ls : List Addr} {n : Nat} {F : Nat → List Int} (e : H p = some (.lst (ls.map V.ref))) (rr : RowsF H ls n F) (hn : n ≤ 1000) (hF : ∀ k, k < n → (F k).length ≤ 1000) : TT Bar0 H (.ref p) :=
  .lst e (fun _ z => z.elim) (by rw [List.length_map, rr.len]; omega) fun x hx => by
    obtain ⟨q, hq, rfl⟩ := List.mem_map.mp hx
    obtain ⟨k, hk⟩ := List.getElem?_of_mem hq
    have hkl : k < n := by rw [← rr.len]; exact (List.getElem?_eq_some_iff.mp hk).1
    exact .lst (rr.row k q hk) (fun _ z => z.elim) (by rw [List.length_map]; have := hF k hkl; omega) (.ints _)
theorem tl_of {H : Hp} {p : Addr} {ls : List Addr} {n : Nat} {F : Nat → List Int} (e : H p = some (.lst (ls.map V.ref))) (rr : RowsF H ls n F) (hn : n ≤ 1000) : ∀ q xs, V.ref p = .ref q → H q = some (.lst xs) → xs.length ≤ 1000 := fun q xs z h => by
  cases z
  rw [e] at h
  cases h
  rw [List.length_map, rr.len]
  omega
end Ur

namespace Ur
open PySem L2 PySem.Spec PyProof.Rows
/-! ### the row that lines tell, a number as one ahead where from that one on it adds nothing -/
def nameT (F : Nat → List Int) (r : List Int) (k m : Nat) : Int := (List.range m).foldl (fun nm j => if (F j).getD (k - j + 1) 0 = (F j).getD (k - j) 0 then r.getD j 0 else nm) (ulen r : Int)
def tabRow (F : Nat → List Int) : Nat → List Int
  | 0 => []
  | k + 1 => tabRow F k ++ [nameT F (tabRow F k) k k]
theorem tabRow_len (F : Nat → List Int) : ∀ k, (tabRow F k).length = k
  | 0 => rfl
  | k + 1 => by show (tabRow F k ++ [_]).length = k + 1; rw [List.length_append, tabRow_len F k]; rfl
theorem nameT_succ (F : Nat → List Int) (r : List Int) (k m : Nat) : nameT F r k (m + 1) = if (F m).getD (k - m + 1) 0 = (F m).getD (k - m) 0 then r.getD m 0 else nameT F r k m := by
  unfold nameT
  rw [List.range_succ, List.foldl_append]
  rfl
theorem nameT_is {F : Nat → List Int} {r : List Int} {k : Nat} {l : Int} : ∀ m : Nat, m ≤ k → (∀ j : Nat, j < k → ((F j).getD (k - j + 1) 0 = (F j).getD (k - j) 0 ↔ (j : Int) ≤ l)) → nameT F r k m = if l < 0 ∨ m = 0 then (ulen r : Int) else r.getD (min l.toNat (m - 1)) 0
  | 0, _, _ => by rw [if_pos (.inr rfl)]; rfl
  | m + 1, hm, h => by
    rw [nameT_succ, nameT_is m (by omega) h]
    by_cases c : (m : Int) ≤ l
    · rw [if_pos ((h m (by omega)).mpr c), if_neg (by omega), show min l.toNat (m + 1 - 1) = m by omega]
    · rw [if_neg (fun z => c ((h m (by omega)).mp z))]
      by_cases c0 : l < 0
      · rw [if_pos (.inl c0), if_pos (.inl c0)]
      · rw [if_neg (by omega), if_neg (by omega), show min l.toNat (m - 1) = min l.toNat (m + 1 - 1) by omega]
theorem tabRow_line (s : List Int) : ∀ k, k ≤ s.length → tabRow (lineW s) k = (plainP s).take k
  | 0, _ => rfl
  | k + 1, hk => by
    have ih := tabRow_line s k (by omega)
    have hpl := plainP_len s
    show tabRow (lineW s) k ++ [nameT (lineW s) (tabRow (lineW s) k) k k] = _
    have hr := lp_range s k
    rw [ih, nameT_is (l := lp s k) k (Nat.le_refl _) fun j hj => ?_]
    · have hsk : s[k]? = some (s.getD k 0) := get_of (by omega)
      have hpk : (plainP s)[k]? = some ((plainAt s (s.getD k 0) : Nat) : Int) := by
        unfold plainP; rw [List.getElem?_map, hsk]; rfl
      rw [take_snoc hpk]
      congr 2
      by_cases c : lp s k < 0
      · rw [if_pos (.inl c)]
        have hn : s.getD k 0 ∉ s.take k := (last_new (by omega)).mp c
        have hix := idx_first hsk hn
        rw [← plainP_take, ulen_plain]
        unfold plainAt
        rw [hix]
      · rw [if_neg (by omega), show min (lp s k).toNat (k - 1) = (lp s k).toNat by omega]
        rcases lastAt_spec s (s.getD k 0) k with ⟨e, n⟩ | ⟨v, e, h1, h2, _⟩
        · exact absurd (show lp s k = -1 from e) (by omega)
        · have e' : lp s k = v := e
          rw [e', Int.toNat_natCast]
          refine getD_of ?_
          rw [List.getElem?_take_of_lt h1]
          unfold plainP
          rw [List.getElem?_map, get_of (by omega : v < s.length), h2]
          rfl
    · have hlen := lineW_len s j
      rw [lineW_getD (by omega), lineW_getD (by omega), show j + (k - j + 1) = k + 1 by omega, show j + (k - j) = k by omega, wunN_up (by omega) (by omega)]
      show _ ↔ (j : Int) ≤ lastAt s k (s.getD k 0)
      split <;> omega
theorem tabRow_congr {F G : Nat → List Int} : ∀ n : Nat, (∀ k, k < n → F k = G k) → tabRow F n = tabRow G n
  | 0, _ => rfl
  | n + 1, h => by
    show tabRow F n ++ [nameT F (tabRow F n) n n] = tabRow G n ++ [nameT G (tabRow G n) n n]
    rw [tabRow_congr n fun k hk => h k (by omega)]
    congr 2
    have : ∀ m, m ≤ n → nameT F (tabRow G n) n m = nameT G (tabRow G n) n m := by
      intro m
      induction m with
      | zero => intro _; rfl
      | succ m ih => intro hm; rw [nameT_succ, nameT_succ, h m (by omega), ih (by omega)]
    exact this n (Nat.le_refl _)
/-- lines of a row: those of the row that they tell -/
theorem tabRow_lines {F : Nat → List Int} {s : List Int} {n : Nat} (hn : s.length = n) (h : ∀ k, k < n + 1 → F k = lineW s k) : plainP (tabRow F n) = plainP s ∧ ∀ k, lineW (tabRow F n) k = lineW s k := by
  have e : tabRow F n = plainP s := by
    rw [tabRow_congr n fun k hk => h k (by omega), tabRow_line s n (by omega), List.take_of_length_le (by rw [plainP_len]; omega)]
  rw [e]
  exact ⟨plain_plain s, fun k => lineW_plain s k⟩
theorem IsTab.back {L : Addr → Prop} {H H' : Hp} {v : V} {r : List Int} (t : TT L H v) (s : Same H H') (h : IsTab H' v r) : IsTab H v r := by
  obtain ⟨p, ls, rfl, e, rr⟩ := h
  obtain ⟨o, ho⟩ := t.kind.some
  have z := s _ _ ho
  rw [e] at z
  cases z
  refine ⟨p, ls, rfl, ho, rr.len, fun k q hq => ?_⟩
  obtain ⟨_, it⟩ := t.items p _ rfl ho
  have tx := it (.ref q) (List.mem_map.mpr ⟨q, List.mem_of_getElem? hq, rfl⟩)
  obtain ⟨o2, ho2⟩ := tx.kind.some
  have w := s _ _ ho2
  rw [rr.row k q hq] at w
  cases w
  exact ho2
theorem TT.but {L : Addr → Prop} {a : Addr} {H H' : Hp} {v : V} (t : TT L H v) (la : L a) (b : But a H H') : TT L H' v := ⟨t.kind.but b (t.ne a la), t.ne, fun p xs e h => by
  subst e
  obtain ⟨o, ho⟩ := t.kind.some
  have z := b _ _ (fun z => t.ne a la (by rw [z])) ho
  rw [h] at z
  cases z
  obtain ⟨l, f⟩ := t.items p xs rfl ho
  exact ⟨l, fun x hx => (f x hx).but la b⟩⟩
theorem TT.ofTh {L : Addr → Prop} {H : Hp} {v : V} (t : Th L H v) (f : ∀ p xs, v = .ref p → H p = some (.lst xs) → ∀ x ∈ xs, Th L H x) : TT L H v := ⟨t.kind, t.ne, fun p xs e h => ⟨(t.items p xs e h).1, f p xs e h⟩⟩
theorem rNe_nil2 {K : PySem.W.Frag} {H : Hp} {a b : Addr} {Q : VK} (h1 : H a = some (.lst [])) (h2 : H b = some (.lst [])) (q : Q (.bl false) H) : rNeD K (.ref a) (.ref b) H Q :=
  ⟨.list [], .list [], .lst (SqL.of h1) .nil, .lst (SqL.of h2) .nil, by decide, by decide, q⟩
theorem rNe_kinds3 {K : PySem.W.Frag} {H : Hp} {a b : Addr} {Q : VK} (h1 : H a = some (.lst [.bl true, .bl true, .bl false])) (h2 : H b = some (.lst [])) (q : Q (.bl true) H) : rNeD K (.ref a) (.ref b) H Q :=
  ⟨.list [.bool true, .bool true, .bool false], .list [], .lst (SqL.of h1) (.cons (.bl _) (.cons (.bl _) (.cons (.bl _) .nil))), .lst (SqL.of h2) .nil, by decide, by decide, q⟩
theorem IsTab.rows {H : Hp} {p : Addr} {ls : List Addr} {r : List Int} {n : Nat} {F : Nat → List Int} (h : IsTab H (.ref p) r) (e : H p = some (.lst (ls.map V.ref))) (rr : RowsF H ls (n + 1) F) : r.length = n ∧ ∀ k, k < n + 1 → F k = lineW r k := by
  obtain ⟨p', ms, z, e2, rs⟩ := h
  cases z
  rw [e] at e2
  have hm := refs_inj' e2
  subst hm
  have a := rr.len
  have b := rs.len
  refine ⟨by omega, fun k hk => ?_⟩
  have g := List.getElem?_eq_getElem (l := ls) (i := k) (by omega)
  have x1 := rr.row k _ g
  have x2 := rs.row k _ g
  rw [x1] at x2
  injection x2 with x2
  injection x2 with x2
  exact (List.map_inj_right (fun _ _ z => by injection z)).mp x2
end Ur

namespace Ur
open PySem PySem.Spec PyProof.Rows L2
/-! ### + - == > and str of a number that may be a truth -/
def IsJ (x : V) (i : Int) : Prop := x = .int i ∨ ∃ b : Bool, x = .bl b ∧ i = if b = true then 1 else 0
def rJ (g : Int → Int → V) : R2 := fun x y H Q => ∃ i j, IsJ x i ∧ y = .int j ∧ Q (g i j) H
theorem int___gt___bool_int_0 (a : Bool) (b : Int) (u : Tok) :
    Gives (Builtin.«int.__gt__» ⟨[.bool a, .int b u], []⟩) (.val (Value.bool (decide ((if a = true then (1 : Int) else 0) > b)))) :=
  .of_wp fun M A E s Q h => by obtain ⟨hp, g, d, tk, os⟩ := s; wp_walk; exact ⟨_, rfl, h⟩
section
variable {prog : Program} {w : World} {A : Around} {E : Value → Shared → Prop} {s : Shared} {Q : Value → Shared → Prop}
theorem gt_bool_int {a : Bool} {b : Int} {u : Tok} (h : Q (.bool (decide ((if a = true then (1 : Int) else 0) > b))) s) : wpAny (model prog w) A (compareOp .Gt (.bool a) (.int b u)) Q E s :=
  SeqAt.rc_left_or (op := .Gt) rfl (typeIs_int s b u) (by decide) F.sub_int_bool F.slot_bool_gt
    (call_gives F.slot_bool_gt rfl F.entry_int_gt (F.args_int_gt_2 _ _) (int___gt___bool_int_0 a b u) ⟨nofun, h⟩) (.inl rfl)
end
section
variable {X : Cx}
theorem op_addJ : OpR X (binaryOp .Add) (rJ fun i j => .int (i + j)) := by
  intro pins s σ H x y v u Q I rx ry h
  obtain ⟨i, j, hx, rfl, q⟩ := h
  obtain ⟨t', rfl⟩ := ry
  rcases hx with rfl | ⟨b, rfl, rfl⟩
  · obtain ⟨t, rfl⟩ := rx
    exact P.add_int ⟨.int _, H, I.tok _, ⟨_, rfl⟩, q⟩
  · cases (show v = Value.bool b from rx)
    exact IntBool.add_bool_int ⟨.int _, H, I.tok _, ⟨_, rfl⟩, q⟩
theorem op_subJ : OpR X (binaryOp .Sub) (rJ fun i j => .int (i - j)) := by
  intro pins s σ H x y v u Q I rx ry h
  obtain ⟨i, j, hx, rfl, q⟩ := h
  obtain ⟨t', rfl⟩ := ry
  rcases hx with rfl | ⟨b, rfl, rfl⟩
  · obtain ⟨t, rfl⟩ := rx
    exact P.sub_int ⟨.int _, H, I.tok _, ⟨_, rfl⟩, q⟩
  · cases (show v = Value.bool b from rx)
    exact IntBool.sub_bool_int ⟨.int _, H, I.tok _, ⟨_, rfl⟩, q⟩
theorem op_eqJ : OpR X (compareOp .Eq) (rJ fun i j => .bl (i == j)) := by
  intro pins s σ H x y v u Q I rx ry h
  obtain ⟨i, j, hx, rfl, q⟩ := h
  obtain ⟨t', rfl⟩ := ry
  rcases hx with rfl | ⟨b, rfl, rfl⟩
  · obtain ⟨t, rfl⟩ := rx
    exact P.eq_int ⟨.bl _, H, I, rfl, q⟩
  · cases (show v = Value.bool b from rx)
    exact SeqAt.RcAt.bool_int b j t' _ _ _ _ ⟨.bl _, H, I, rfl, q⟩
theorem op_gtJ : OpR X (compareOp .Gt) (rJ fun i j => .bl (decide (i > j))) := by
  intro pins s σ H x y v u Q I rx ry h
  obtain ⟨i, j, hx, rfl, q⟩ := h
  obtain ⟨t', rfl⟩ := ry
  rcases hx with rfl | ⟨b, rfl, rfl⟩
  · obtain ⟨t, rfl⟩ := rx
    exact P.gt_int ⟨.bl _, H, I, rfl, q⟩
  · cases (show v = Value.bool b from rx)
    exact gt_bool_int ⟨.bl _, H, I, rfl, q⟩
theorem call_strJ : CallR X (.type "str") (fun xs H Q => ∃ x i, xs = [x] ∧ IsJ x i ∧ i.natAbs.log2 < 1920 ∧ ∀ z : Str, Q (.str z) H) := by
  intro pins s σ H xs us Q I r h
  obtain ⟨x, i, rfl, hx, hz, q⟩ := h
  rcases hx with rfl | ⟨b, rfl, _⟩
  · obtain ⟨u, rfl, t, rfl⟩ := vals1 r
    exact PySem.P.str_of_int hz ⟨.str _, H, I.tok _, ⟨_, rfl⟩, q _⟩
  · obtain ⟨u, rfl, r1⟩ := vals1 r
    cases r1
    exact PySem.P.str_of_bool ⟨.str _, H, I.tok _, ⟨_, rfl⟩, q _⟩
end
end Ur

namespace Ur
open PySem L2 PySem.Spec PyProof.Rows
/-! ### odd things, lists of a thousand at most -/
theorem Old.bar {L : Addr → Prop} {H : Hp} {p : Addr} {o : HO} (h : Old L H) (e : H p = some o) : Old (fun b => L b ∨ b = p) H := ⟨fun b l => by
  rcases l with l | rfl
  · exact h.has b l
  · exact ⟨o, e⟩⟩
structure OD (L : Addr → Prop) (H : Hp) (v : V) : Prop where
  tt : TT L H v
  len : ∀ p ls, v = .ref p → H p = some (.lst ls) → ls.length ≤ 1000
theorem OD.same {L : Addr → Prop} {H H' : Hp} {v : V} (t : OD L H v) (s : Same H H') : OD L H' v := ⟨t.tt.same s, fun p ls e h => by
  subst e
  obtain ⟨o, ho⟩ := t.tt.kind.some
  have z := s _ _ ho
  rw [h] at z
  cases z
  exact t.len p ls rfl ho⟩
theorem OD.but {L : Addr → Prop} {a : Addr} {H H' : Hp} {v : V} (t : OD L H v) (la : L a) (b : But a H H') : OD L H' v := ⟨t.tt.but la b, fun p ls e h => by
  subst e
  obtain ⟨o, ho⟩ := t.tt.kind.some
  have z := b _ _ (fun z => t.tt.ne a la (by rw [z])) ho
  rw [h] at z
  cases z
  exact t.len p ls rfl ho⟩
theorem Kind.neF {H : Hp} {p : Addr} {v : V} (k : Kind H v) (n : H p = none) : v ≠ .ref p := fun e => by
  subst e
  obtain ⟨o, ho⟩ := k.some
  rw [n] at ho
  cases ho
theorem Th.bar {L : Addr → Prop} {H : Hp} {p : Addr} {v : V} (t : Th L H v) (n : H p = none) : Th (fun b => L b ∨ b = p) H v :=
  ⟨t.kind, fun b l => l.elim (t.ne b) fun e => by rw [e]; exact t.kind.neF n, fun q xs e h => ⟨(t.items q xs e h).1, ⟨fun x hx => by
    obtain ⟨k, f⟩ := (t.items q xs e h).2.all x hx
    exact ⟨k, fun b l => l.elim (f b) fun e => by rw [e]; exact k.neF n⟩⟩⟩⟩
theorem OD.bar {L : Addr → Prop} {H : Hp} {p : Addr} {v : V} (t : OD L H v) (n : H p = none) : OD (fun b => L b ∨ b = p) H v :=
  ⟨⟨t.tt.kind, fun b l => l.elim (t.tt.ne b) fun e => by rw [e]; exact t.tt.kind.neF n, fun q xs e h => ⟨(t.tt.items q xs e h).1, fun x hx => ((t.tt.items q xs e h).2 x hx).bar n⟩⟩, t.len⟩
theorem OD.less {L M : Addr → Prop} {H : Hp} {v : V} (t : OD L H v) (f : ∀ b, M b → L b) : OD M H v := ⟨⟨t.tt.kind, fun b m => t.tt.ne b (f b m), fun q xs e h => ⟨(t.tt.items q xs e h).1, fun x hx => ((t.tt.items q xs e h).2 x hx).less f⟩⟩, t.len⟩
theorem TT.th {L : Addr → Prop} {H : Hp} {v : V} (t : TT L H v) : Th L H v := ⟨t.kind, t.ne, fun q xs e h => ⟨(t.items q xs e h).1, ⟨fun x hx => ⟨((t.items q xs e h).2 x hx).kind, ((t.items q xs e h).2 x hx).ne⟩⟩⟩⟩
theorem OD.th {L : Addr → Prop} {H : Hp} {v : V} (t : OD L H v) : Th L H v := t.tt.th
theorem OD.flat {L : Addr → Prop} {H : Hp} {v : V} (k : Kind H v) (n : ∀ p, v ≠ .ref p) : OD L H v := ⟨.of k (fun b _ => n b) fun p _ e => (n p e).elim, fun p _ e => (n p e).elim⟩
theorem OD.int {L : Addr → Prop} {H : Hp} {i : Int} : OD L H (.int i) := .flat .int fun _ => V.noConfusion
theorem OD.bl {L : Addr → Prop} {H : Hp} {i : Bool} : OD L H (.bl i) := .flat .bl fun _ => V.noConfusion
theorem OD.str {L : Addr → Prop} {H : Hp} {i : Str} : OD L H (.str i) := .flat .str fun _ => V.noConfusion
theorem OD.non {L : Addr → Prop} {H : Hp} : OD L H .non := .flat .non fun _ => V.noConfusion
theorem OD.tup {L : Addr → Prop} {H : Hp} {p : Addr} {xs : List V} (e : H p = some (.tup xs)) (n : ∀ b, L b → p ≠ b) : OD L H (.ref p) :=
  ⟨.of (.tup e) (neV n) (fun q ys z h => by cases z; rw [e] at h; cases h), fun q ys z h => by cases z; rw [e] at h; cases h⟩
theorem OD.dct {L : Addr → Prop} {H : Hp} {p : Addr} {xs : List (Key × V)} (e : H p = some (.dK xs)) (n : ∀ b, L b → p ≠ b) : OD L H (.ref p) :=
  ⟨.of (.dct e) (neV n) (fun q ys z h => by cases z; rw [e] at h; cases h), fun q ys z h => by cases z; rw [e] at h; cases h⟩
theorem OD.lst {L : Addr → Prop} {H : Hp} {p : Addr} {xs : List V} (e : H p = some (.lst xs)) (n : ∀ b, L b → p ≠ b) (l : xs.length ≤ 1000) (t : ∀ x ∈ xs, OD L H x) : OD L H (.ref p) :=
  ⟨.lst e n (by omega) fun x h => (t x h).th, fun q ys z h => by cases z; rw [e] at h; cases h; exact l⟩
/-- .. its lines just things -/
theorem OD.lst' {L : Addr → Prop} {H : Hp} {p : Addr} {xs : List V} (e : H p = some (.lst xs)) (n : ∀ b, L b → p ≠ b) (l : xs.length ≤ 1000) (t : ∀ x ∈ xs, Th L H x) : OD L H (.ref p) :=
  ⟨.lst e n (by omega) t, fun q ys z h => by cases z; rw [e] at h; cases h; exact l⟩
theorem fa_nil {α : Type} {P : α → Prop} : ∀ x ∈ ([] : List α), P x := fun _ h => nomatch h
theorem fa_cons {α : Type} {P : α → Prop} {x : α} {xs : List α} (h : P x) (t : ∀ y ∈ xs, P y) : ∀ y ∈ x :: xs, P y := fun y hy => by
  rcases List.mem_cons.mp hy with rfl | z
  · exact h
  · exact t y z
theorem fa_app {α : Type} {P : α → Prop} {xs ys : List α} (h : ∀ x ∈ xs, P x) (t : ∀ y ∈ ys, P y) : ∀ y ∈ xs ++ ys, P y := fun y hy => (List.mem_append.mp hy).elim (h y) (t y)
theorem nt_line {H : Hp} {p : Addr} {xs : List V} {j : Nat} {x : V} (e : H p = some (.lst xs)) (hj : xs[j]? = some x) (h : ∀ q (ms : List Int), x = .ref q → H q ≠ some (.lst (ms.map V.int))) : ¬ ∃ r, IsTab H (.ref p) r := fun ⟨r, t⟩ => by
  obtain ⟨q, ms, e1, e2, _⟩ := (t.sh.at e).2 j x hj
  exact h q ms e1 e2
theorem nt_tup {H : Hp} {p : Addr} {xs : List V} (e : H p = some (.tup xs)) : ¬ ∃ r, IsTab H (.ref p) r := fun ⟨r, q, ls, z, h, _⟩ => by
  cases z
  rw [e] at h
  cases h
theorem noI_ref {H : Hp} {q z : Addr} {xs : List V} (e : H q = some (.lst xs)) (h : V.ref z ∈ xs) : ∀ q' (ms : List Int), V.ref q = .ref q' → H q' ≠ some (.lst (ms.map V.int)) := fun q' ms c k => by
  cases c
  rw [e] at k
  injection k with k
  injection k with k
  rw [k] at h
  obtain ⟨m, _, w⟩ := List.mem_map.mp h
  cases w
theorem noI_tup {H : Hp} {q : Addr} {xs : List V} (e : H q = some (.tup xs)) : ∀ q' (ms : List Int), V.ref q = .ref q' → H q' ≠ some (.lst (ms.map V.int)) := fun q' ms c k => by
  cases c
  rw [e] at k
  cases k
theorem line_set {L : Addr → Prop} {H : Hp} {q : Addr} {ls : List Int} {v : V} {k : Nat} (e : H q = some (.lst ((ls.map V.int).set k v))) (n : ∀ b, L b → q ≠ b) (l : ls.length ≤ 1000) (tv : Th L H v) : Th L H (.ref q) := .lst e n (by rw [List.length_set, List.length_map]; omega) ⟨fun x hx => by
  rcases List.mem_or_eq_of_mem_set hx with h | rfl
  · obtain ⟨m, _, rfl⟩ := List.mem_map.mp h
    exact ⟨.int, fun _ _ => V.noConfusion⟩
  · exact ⟨tv.kind, tv.ne⟩⟩
theorem line_ints {L : Addr → Prop} {H : Hp} {q : Addr} {ls : List Int} (e : H q = some (.lst (ls.map V.int))) (n : ∀ b, L b → q ≠ b) (l : ls.length ≤ 1000) : Th L H (.ref q) := .lst e n (by rw [List.length_map]; omega) (.ints _)
/-- odd things that are no table -/
structure NT (H : Hp) (v : V) : Prop where
  od : OD Bar0 H v
  no : ¬ ∃ r, IsTab H v r
theorem NT.same {H H' : Hp} {v : V} (t : NT H v) (s : Same H H') : NT H' v := ⟨t.od.same s, fun ⟨r, h⟩ => t.no ⟨r, IsTab.back t.od.tt s h⟩⟩
theorem bar0 {p : Addr} : ∀ b, Bar0 b → p ≠ b := fun _ z => z.elim
end Ur

namespace Ur
open PySem L2 PySem.Spec PyProof.Rows
/-! ### tables with things within -/
structure VB (L : Addr → Prop) (H : Hp) (B : Nat) (v : V) : Prop where
  kind : Kind H v
  ne : ∀ b, L b → v ≠ .ref b
  bd : ∀ i : Int, v = .int i → i.natAbs ≤ B
theorem VB.same {L : Addr → Prop} {H H' : Hp} {B : Nat} {v : V} (t : VB L H B v) (s : Same H H') : VB L H' B v := ⟨t.kind.same s, t.ne, t.bd⟩
theorem VB.but {L : Addr → Prop} {a : Addr} {H H' : Hp} {B : Nat} {v : V} (t : VB L H B v) (la : L a) (b : But a H H') : VB L H' B v := ⟨t.kind.but b (t.ne a la), t.ne, t.bd⟩
theorem VB.mono {L : Addr → Prop} {H : Hp} {B C : Nat} {v : V} (t : VB L H B v) (h : B ≤ C) : VB L H C v := ⟨t.kind, t.ne, fun i e => Nat.le_trans (t.bd i e) h⟩
theorem VB.bar {L : Addr → Prop} {H : Hp} {p : Addr} {B : Nat} {v : V} (t : VB L H B v) (n : H p = none) : VB (fun b => L b ∨ b = p) H B v := ⟨t.kind, fun b l => l.elim (t.ne b) fun e => by rw [e]; exact t.kind.neF n, t.bd⟩
theorem VB.flat {L : Addr → Prop} {H : Hp} {B : Nat} {v : V} (k : Kind H v) (n : ∀ p, v ≠ .ref p) (b : ∀ i : Int, v = .int i → i.natAbs ≤ B) : VB L H B v := ⟨k, fun b _ => n b, b⟩
theorem VB.int {L : Addr → Prop} {H : Hp} {B : Nat} {i : Int} (h : i.natAbs ≤ B) : VB L H B (.int i) := .flat .int (fun _ => V.noConfusion) fun _ e => by cases e; exact h
theorem VB.bl {L : Addr → Prop} {H : Hp} {B : Nat} {i : Bool} : VB L H B (.bl i) := .flat .bl (fun _ => V.noConfusion) fun _ e => by cases e
theorem VB.str {L : Addr → Prop} {H : Hp} {B : Nat} {i : Str} : VB L H B (.str i) := .flat .str (fun _ => V.noConfusion) fun _ e => by cases e
theorem VB.non {L : Addr → Prop} {H : Hp} {B : Nat} : VB L H B .non := .flat .non (fun _ => V.noConfusion) fun _ e => by cases e
theorem VB.lst {L : Addr → Prop} {H : Hp} {B : Nat} {p : Addr} {xs : List V} (e : H p = some (.lst xs)) (n : ∀ b, L b → p ≠ b) : VB L H B (.ref p) := ⟨.lst e, neV n, fun _ e => by cases e⟩
theorem VB.tup {L : Addr → Prop} {H : Hp} {B : Nat} {p : Addr} {xs : List V} (e : H p = some (.tup xs)) (n : ∀ b, L b → p ≠ b) : VB L H B (.ref p) := ⟨.tup e, neV n, fun _ e => by cases e⟩
theorem VB.dct {L : Addr → Prop} {H : Hp} {B : Nat} {p : Addr} {xs : List (Key × V)} (e : H p = some (.dK xs)) (n : ∀ b, L b → p ≠ b) : VB L H B (.ref p) := ⟨.dct e, neV n, fun _ e => by cases e⟩
theorem VB.its {L : Addr → Prop} {H : Hp} {B : Nat} {xs : List V} (t : ∀ x ∈ xs, VB L H B x) : Its L H xs := ⟨fun x h => ⟨(t x h).kind, (t x h).ne⟩⟩
/-- a line -/
structure Ln (L : Addr → Prop) (H : Hp) (B : Nat) (x : V) : Prop where
  ex : ∃ q ys, x = .ref q ∧ H q = some (.lst ys) ∧ 1 ≤ ys.length ∧ ys.length ≤ 400 ∧ (∀ b, L b → q ≠ b) ∧ ∀ y ∈ ys, VB L H B y
theorem Ln.same {L : Addr → Prop} {H H' : Hp} {B : Nat} {v : V} (t : Ln L H B v) (s : Same H H') : Ln L H' B v := by
  obtain ⟨q, ys, e, h, l1, l2, n, f⟩ := t.ex
  exact ⟨q, ys, e, s _ _ h, l1, l2, n, fun y hy => (f y hy).same s⟩
theorem Ln.but {L : Addr → Prop} {a : Addr} {H H' : Hp} {B : Nat} {v : V} (t : Ln L H B v) (la : L a) (b : But a H H') : Ln L H' B v := by
  obtain ⟨q, ys, e, h, l1, l2, n, f⟩ := t.ex
  exact ⟨q, ys, e, b _ _ (n a la) h, l1, l2, n, fun y hy => (f y hy).but la b⟩
theorem Ln.mono {L : Addr → Prop} {H : Hp} {B C : Nat} {v : V} (t : Ln L H B v) (h : B ≤ C) : Ln L H C v := by
  obtain ⟨q, ys, e, k, l1, l2, n, f⟩ := t.ex
  exact ⟨q, ys, e, k, l1, l2, n, fun y hy => (f y hy).mono h⟩
theorem Ln.bar {L : Addr → Prop} {H : Hp} {p : Addr} {B : Nat} {v : V} (t : Ln L H B v) (w : H p = none) : Ln (fun b => L b ∨ b = p) H B v := by
  obtain ⟨q, ys, e, k, l1, l2, n, f⟩ := t.ex
  exact ⟨q, ys, e, k, l1, l2, fun b l => l.elim (n b) (fun e z => by rw [z, e, w] at k; cases k), fun y hy => (f y hy).bar w⟩
theorem Ln.th {L : Addr → Prop} {H : Hp} {B : Nat} {v : V} (t : Ln L H B v) : Th L H v := by
  obtain ⟨q, ys, rfl, k, l1, l2, n, f⟩ := t.ex
  exact .lst k n (by omega) (VB.its f)
/-- a table -/
structure Tb (L : Addr → Prop) (H : Hp) (B : Nat) (t : Addr) (xs : List V) : Prop where
  at_ : H t = some (.lst xs)
  pos : 1 ≤ xs.length
  le : xs.length ≤ 400
  ne : ∀ b, L b → t ≠ b
  line : ∀ x ∈ xs, Ln L H B x
theorem Tb.same {L : Addr → Prop} {H H' : Hp} {B : Nat} {t : Addr} {xs : List V} (h : Tb L H B t xs) (s : Same H H') : Tb L H' B t xs := ⟨s _ _ h.at_, h.pos, h.le, h.ne, fun x k => (h.line x k).same s⟩
theorem Tb.but {L : Addr → Prop} {a : Addr} {H H' : Hp} {B : Nat} {t : Addr} {xs : List V} (h : Tb L H B t xs) (la : L a) (b : But a H H') : Tb L H' B t xs := ⟨b _ _ (h.ne a la) h.at_, h.pos, h.le, h.ne, fun x k => (h.line x k).but la b⟩
theorem Tb.bar {L : Addr → Prop} {H : Hp} {p : Addr} {B : Nat} {t : Addr} {xs : List V} (h : Tb L H B t xs) (w : H p = none) : Tb (fun b => L b ∨ b = p) H B t xs := ⟨h.at_, h.pos, h.le, fun b l => l.elim (h.ne b) (fun e z => by have := h.at_; rw [z, e, w] at this; cases this), fun x k => (h.line x k).bar w⟩
theorem Tb.mono {L : Addr → Prop} {H : Hp} {B C : Nat} {t : Addr} {xs : List V} (h : Tb L H B t xs) (k : B ≤ C) : Tb L H C t xs := ⟨h.at_, h.pos, h.le, h.ne, fun x z => (h.line x z).mono k⟩
theorem Tb.od {L : Addr → Prop} {H : Hp} {B : Nat} {t : Addr} {xs : List V} (h : Tb L H B t xs) : OD L H (.ref t) := OD.lst' h.at_ h.ne (by have := h.le; omega) fun x k => (h.line x k).th
/-- of a row's lines -/
theorem Tb.rows {L : Addr → Prop} {H : Hp} {t : Addr} {ls : List Addr} {r : List Int} (e : H t = some (.lst (ls.map V.ref))) (rr : RowsF H ls (r.length + 1) (lineW r)) (hl : r.length ≤ 300) (n : ∀ b, L b → t ≠ b) (ns : ∀ l ∈ ls, ∀ b, L b → l ≠ b) : Tb L H 400 t (ls.map V.ref) :=
  ⟨e, by rw [List.length_map, rr.len]; omega, by rw [List.length_map, rr.len]; omega, n, fun x hx => by
    obtain ⟨l, hm, rfl⟩ := List.mem_map.mp hx
    obtain ⟨k, hk⟩ := List.mem_iff_getElem?.mp hm
    have hkl := (List.getElem?_eq_some_iff.mp hk).1
    have h2 := rr.len
    have el := rr.row k l hk
    refine ⟨l, _, rfl, el, by rw [List.length_map, lineW_len]; omega, by rw [List.length_map, lineW_len]; omega, ns l hm, fun y hy => ?_⟩
    obtain ⟨m, hm2, rfl⟩ := List.mem_map.mp hy
    refine VB.int ?_
    unfold lineW at hm2
    obtain ⟨j, hj, rfl⟩ := List.mem_map.mp hm2
    have := List.mem_range.mp hj
    have w := wunN_wide (ns := r) (f := k) (b := k + j)
    omega⟩
/-- one line another one -/
theorem Tb.with_ {L : Addr → Prop} {H : Hp} {B : Nat} {t p p2 : Addr} {xs ys : List V} {v : V} {f k : Nat} (h : Tb L H B t xs) (hf : f < xs.length) (hk : k < ys.length) (hy : ys.length ≤ 400) (fy : ∀ y ∈ ys, VB L H B y) (hv : VB L H B v)
    (e : H p = some (.lst (xs.take f ++ [.ref p2] ++ xs.drop (f + 1)))) (e2 : H p2 = some (.lst (ys.take k ++ [v] ++ ys.drop (k + 1)))) (n : ∀ b, L b → p ≠ b) (n2 : ∀ b, L b → p2 ≠ b) : Tb L H B p (xs.take f ++ [.ref p2] ++ xs.drop (f + 1)) :=
  ⟨e, by simp; omega, by have := h.le; simp; omega, n, fun x hx => by
    rcases List.mem_append.mp hx with hx | hx
    · rcases List.mem_append.mp hx with hx | hx
      · exact h.line x (List.mem_of_mem_take hx)
      · rw [List.mem_singleton.mp hx]
        refine ⟨p2, _, rfl, e2, by simp; omega, by simp; omega, n2, fun y hy => ?_⟩
        rcases List.mem_append.mp hy with hy | hy
        · rcases List.mem_append.mp hy with hy | hy
          · exact fy y (List.mem_of_mem_take hy)
          · rw [List.mem_singleton.mp hy]; exact hv
        · exact fy y (List.mem_of_mem_drop hy)
    · exact h.line x (List.mem_of_mem_drop hx)⟩
theorem rEq_nil2 {K : PySem.W.Frag} {H : Hp} {a b : Addr} {Q : VK} (h1 : H a = some (.lst [])) (h2 : H b = some (.lst [])) (q : Q (.bl true) H) : rEqD K (.ref a) (.ref b) H Q :=
  ⟨.list [], .list [], .lst (SqL.of h1) .nil, .lst (SqL.of h2) .nil, by decide, by decide, q⟩
theorem Tb.less {L M : Addr → Prop} {H : Hp} {B : Nat} {t : Addr} {xs : List V} (h : Tb L H B t xs) (f : ∀ b, M b → L b) : Tb M H B t xs := ⟨h.at_, h.pos, h.le, fun b m => h.ne b (f b m), fun x k => by
  obtain ⟨q, ys, e, k, l1, l2, n, g⟩ := (h.line x k).ex
  exact ⟨q, ys, e, k, l1, l2, fun b m => n b (f b m), fun y hy => ⟨(g y hy).kind, fun b m => (g y hy).ne b (f b m), (g y hy).bd⟩⟩⟩
end Ur

local macro_rules | `(tactic| kct_strs) => `(tactic| first
  | (with_reducible assumption)
  | ((with_reducible show (_ : Option L2.HO) = some _); first
    | (with_reducible exact Ur.upd_snoc)
    | (with_reducible exact Ur.upd_cutto (by omega))
    | (with_reducible exact Ur.upd_cutmid (by omega) (by omega))
    | (with_reducible exact Ur.upd_cutfrom (by omega))
    | (with_reducible exact Ur.upd_cutall)
    | (with_reducible exact Ur.upd_set)
    | (with_reducible exact Ur.upd_app)
    | (with_reducible exact Ur.upd_rep)
    | (with_reducible exact Ur.upd_rep0)
    | (with_reducible exact Ur.upd_1cat)
    | (with_reducible exact L2.upd_same)
    | ((with_reducible apply Ur.dead_upd); exact L2.upd_same)
    | ((fail_if_success (with_reducible apply Ur.dead_upd)); (with_reducible apply Ur.get_upd); (focus kcj_m); kct_strs)
    | ((with_reducible apply Ur.same_get); (focus (with_reducible assumption)); kct_strs)
    | ((with_reducible apply Ur.but_get); (focus (with_reducible assumption)); (focus kcj_m); kct_strs))
  | ((with_reducible show L2.SqL _ _ _ _); first
    | ((with_reducible apply Ur.sqlK); (focus (with_reducible assumption)); (focus (first | (with_reducible rfl) | rfl)))
    | ((with_reducible apply L2.SqL.of); kct_strs)
    | ((with_reducible apply L2.Same.seq); (focus (with_reducible assumption)); kct_strs)
    | ((with_reducible apply Ur.sql_new); (focus (with_reducible assumption)); kct_strs)
    | ((with_reducible apply Ur.sql_upd); (focus kcj_m); kct_strs))
  | ((with_reducible show L2.SqT _ _ _ _); (with_reducible apply L2.SqT.of); kct_strs))
local macro_rules | `(tactic| kcj_m) => `(tactic| ((with_reducible show _ ≠ _); (fail_if_success (with_reducible apply Ur.dead_ne)); first
  | (with_reducible assumption)
  | (with_reducible exact Ne.symm (by assumption))
  | ((with_reducible apply Ur.ne_new); (focus (with_reducible assumption)); kct_strs)
  | ((with_reducible apply Ur.ne_new'); (focus (with_reducible assumption)); kct_strs)
  | (refine L2.ne_of (by assumption) (by kct_strs) (by intro q; cases q))))
local macro_rules | `(tactic| tb_rel) => `(tactic| first
  | ((with_reducible show List.length (L2.putF _ _ _) < _); first | exact Ur.pf1 | exact Ur.pf2 | exact Ur.pf3)
  | ((with_reducible show List.length (Ur.livF _ _ _) < _); exact Ur.pfL)
  | ((with_reducible show List.length (L2.putF _ _ (Ur.livF _ _ _)) < _); exact Ur.pfM)
  | ((with_reducible show List.lookup _ _ = _); first | exact Ur.rdy_many | exact Ur.rdy_lasts | exact Ur.rdy_nexts | exact Ur.rdy_no (by decide) (by decide) (by decide) | exact Ur.hld_times | exact Ur.hld_no (by decide) | exact Ur.liv_numbers | exact Ur.liv_changes | exact Ur.liv_made | exact Ur.liv_no (by decide) (by decide) (by decide))
  | ((fail_if_success (with_reducible show (_ : Option L2.HO) = _)); (with_reducible show _ = _); exact rfl)
  | (with_reducible assumption)
  | ((with_reducible show (_ : Option L2.HO) = Option.some _); kct_strs)
  | ((with_reducible show L2.SqL _ _ _ _); kct_strs)
  | ((with_reducible show ∃ xs, L2.SqL _ _ _ xs); exact ⟨_, by kct_strs⟩)
  | ((with_reducible show L2.SqT _ _ _ _); kct_strs)
  | ((with_reducible show ∃ xs, L2.SqT _ _ _ xs); exact ⟨_, by kct_strs⟩)
  | ((with_reducible show _ ≠ _); kcj_m)
  | ((with_reducible show L2.Same _ _); kcj_in)
  | ((with_reducible show Ur.IsW _ _ _); first | (with_reducible assumption) | exact Ur.IsW.int | exact Ur.IsW.bl | exact Ur.IsW.str | exact Ur.IsW.non | exact Ur.IsW.lst (by kct_strs) | exact Ur.IsW.tup (by kct_strs) | exact Ur.IsW.dct (by kct_strs))
  | ((with_reducible show Ur.Kind _ _); first | (with_reducible assumption) | exact Ur.Kind.int | exact Ur.Kind.bl | exact Ur.Kind.str | exact Ur.Kind.non | ((with_reducible apply Ur.Kind.same); (focus (with_reducible assumption)); kcj_in) | exact Ur.Kind.lst (by kct_strs) | exact Ur.Kind.tup (by kct_strs) | exact Ur.Kind.dct (by kct_strs))
  | ((with_reducible show Ur.But _ _ _); cc_are)
  | ((with_reducible show (_ : Option L2.HO) = Option.none); cc_off)
  | ((fail_if_success (with_reducible show (_ : Option L2.HO) = _)); first
    | (intros; omega)
    | assumption
    | exact Ur.at_int' (by omega) (by omega)
    | exact Ur.at_int' (by dsimp only; omega) (by dsimp only; omega)
    | exact Ur.ixN_iv (by omega) (by omega)
    | exact Ur.at2 (by omega) (by omega)
    | exact Ur.at3 (by omega) (by omega)
    | exact Ur.at4 (by omega) (by omega)
    | exact Ur.at6 (by omega) (by omega)
    | ((with_reducible show L2.IsD _ _); exact Ur.isD_of (by kct_strs))
    | ((with_reducible show L2.tyV _ _ _ _); exact Ur.tyL (by kct_strs))
    | ((with_reducible show L2.DGet _ _ _ _); exact Ur.dget_int (by kct_strs))
    | ((with_reducible show L2.DPut _ _ _ _ _); exact Ur.dput_int (by kct_strs) (Ur.szl (by omega)))
    | ((with_reducible show _ ∨ _); first | exact Or.inl (by kct_strs) | exact Or.inr (by kct_strs) | exact Or.inl ⟨by omega, by omega⟩ | exact Or.inr ⟨by omega, by omega⟩ | exact Or.inr ⟨by decide, by decide⟩ | exact Or.inl ⟨by decide, by decide⟩)
    | ((with_reducible show _ ∧ _); first | exact ⟨by omega, by omega⟩ | exact ⟨by decide, by decide⟩ | exact ⟨by decide, by decide, by decide⟩)
    | exact Ur.sz (by (try simp only [List.length_append, List.length_map, List.length_cons, List.length_nil, List.length_take, List.length_drop, List.length_range, List.length_replicate, List.length_set, List.length_reverse]); omega)
    | exact Ur.szl (by (try simp only [List.length_append, List.length_map, List.length_cons, List.length_nil, List.length_take, List.length_drop, List.length_range, List.length_replicate, List.length_set, List.length_reverse]); omega)
    | (apply Ur.szT; (focus (repeat (first | (apply Nat.add_le_add) | (apply Ur.lb_map) | (apply Ur.lb_filter) | (apply Ur.lb_app) | (apply Ur.lb_cons) | exact Ur.lb_nil | exact Ur.lb_range | exact Nat.le_refl _))); omega)
    | (apply Ur.szlT; (focus (repeat (first | (apply Nat.add_le_add) | (apply Ur.lb_map) | (apply Ur.lb_filter) | (apply Ur.lb_app) | (apply Ur.lb_cons) | exact Ur.lb_nil | exact Ur.lb_range | exact Nat.le_refl _))); omega)
    | ((with_reducible show List.length _ ≤ _); (first | (rw [List.length_take, List.length_drop]; omega) | (rw [List.length_take]; omega) | (rw [List.length_drop]; omega) | (rw [List.length_reverse]; omega)))
    | ((with_reducible show L2.RgOk _ _); exact L2.RgOk.of_le (by omega) (by omega) (by omega) (by omega))
    | exact Nat.succ_pos _
    | exact Ur.pos_app
    | exact ⟨by omega, by omega⟩
    | exact Or.inl ⟨by omega, by omega⟩
    | exact Or.inr ⟨by omega, by omega⟩
    | exact Or.inr ⟨by decide, by decide⟩
    | exact Or.inl ⟨by decide, by decide⟩
    | exact ⟨by decide, by decide⟩
    | exact ⟨by decide, by decide, by decide⟩
    | decide))
local macro_rules | `(tactic| tb_start) => `(tactic| repeat (first
  | (with_reducible refine Ur.tCi ?_)
  | (with_reducible refine Ur.tNilI ?_)
  | (with_reducible refine L2.iteF ?_)
  | (with_reducible refine L2.iteT ?_)
  | (with_reducible refine Ur.neg_same ?_)
  | (with_reducible refine Ur.pos_same ?_)
  | ((with_reducible apply Ur.isiK); (focus (first | exact Ur.tyx_int | exact Ur.tyx_bl | exact Ur.tyx_non | exact Ur.tyx_str | exact Ur.tyx_lst (by kct_strs) | exact Ur.tyx_tup (by kct_strs) | exact Ur.tyx_dK (by kct_strs))); (focus (first | exact Ur.kb_int_int | exact Ur.kb_int_bool | exact Ur.kb_int_str | exact Ur.kb_int_list | exact Ur.kb_int_tuple | exact Ur.kb_int_dict | exact Ur.kb_bool_int | exact Ur.kb_bool_bool | exact Ur.kb_bool_str | exact Ur.kb_bool_list | exact Ur.kb_bool_tuple | exact Ur.kb_bool_dict | exact Ur.kb_str_int | exact Ur.kb_str_bool | exact Ur.kb_str_str | exact Ur.kb_str_list | exact Ur.kb_str_tuple | exact Ur.kb_str_dict | exact Ur.kb_NoneType_int | exact Ur.kb_NoneType_bool | exact Ur.kb_NoneType_str | exact Ur.kb_NoneType_list | exact Ur.kb_NoneType_tuple | exact Ur.kb_NoneType_dict | exact Ur.kb_list_int | exact Ur.kb_list_bool | exact Ur.kb_list_str | exact Ur.kb_list_list | exact Ur.kb_list_tuple | exact Ur.kb_list_dict | exact Ur.kb_tuple_int | exact Ur.kb_tuple_bool | exact Ur.kb_tuple_str | exact Ur.kb_tuple_list | exact Ur.kb_tuple_tuple | exact Ur.kb_tuple_dict | exact Ur.kb_dict_int | exact Ur.kb_dict_bool | exact Ur.kb_dict_str | exact Ur.kb_dict_list | exact Ur.kb_dict_tuple | exact Ur.kb_dict_dict)))
  | ((with_reducible apply Ur.isiK); (focus (with_reducible assumption)); (focus (with_reducible assumption)))
  | ((with_reducible apply Ur.isK1); (focus kct_strs); (focus (with_reducible assumption)); (focus (with_reducible assumption)))
  | ((with_reducible apply Ur.isKT); (focus kct_strs); (focus (with_reducible assumption)); (focus (with_reducible assumption)))
  | ((with_reducible apply Ur.isK2); (focus kct_strs); (focus (with_reducible assumption)); (focus (with_reducible assumption)); (focus kct_strs); (focus rfl))
  | (with_reducible refine Ur.isN_ref ?_)
  | ((with_reducible apply Ur.isX1); (focus (with_reducible assumption)); (focus (with_reducible assumption)))
  | ((with_reducible apply Ur.isXT); (focus (with_reducible assumption)); (focus (with_reducible assumption)))
  | ((with_reducible apply Ur.isX2); (focus (with_reducible assumption)); (focus (with_reducible assumption)); (focus kct_strs); (focus rfl))
  | ((with_reducible apply Ur.rEq_kinds); (focus kct_strs); (focus kct_strs))
  | ((with_reducible apply Ur.len_ints); (focus kct_strs))
  | ((with_reducible apply Ur.len_refs); (focus kct_strs))
  | ((with_reducible apply Ur.in_int); (focus kct_strs))
  | ((with_reducible apply Ur.notin_int); (focus kct_strs))
  | ((with_reducible apply Ur.setd_int); (focus kct_strs))
  | ((with_reducible apply Ur.repr_pair); (focus kct_strs))
  | ((with_reducible apply Ur.pop1_int); (focus kct_strs); (focus assumption))
  | ((with_reducible apply Ur.index_int); (focus kct_strs))
  | ((with_reducible apply Ur.rEq_intsN); (focus kct_strs); (focus kct_strs))
  | ((with_reducible apply Ur.rNe_intsN); (focus kct_strs); (focus kct_strs))
  | ((with_reducible apply Ur.rEq_ints); (focus kct_strs); (focus kct_strs))
  | ((with_reducible apply Ur.rNe_ints); (focus kct_strs); (focus kct_strs))
  | (with_reducible refine Ur.noN ?_)
  | (with_reducible refine Ur.noNn ?_)
  | ((with_reducible refine Ur.brT ?_ ?_); (focus omega))
  | ((with_reducible refine Ur.brF ?_ ?_); (focus omega))
  | ((with_reducible refine Ur.brnT ?_ ?_); (focus omega))
  | ((with_reducible refine Ur.brnF ?_ ?_); (focus omega))
  | (refine And.intro ?_ ?_; (first | (focus tb_rel) | rotate_left 1))
  | refine Or.inl ⟨_, rfl, ?_⟩
  | refine Or.inr ⟨_, rfl, ?_⟩
  | ((fail_if_success (with_reducible show L2.rEqD _ _ _ _ _)); (fail_if_success (with_reducible show L2.rNeD _ _ _ _ _)); (fail_if_success (with_reducible show Ur.rRepr _ _ _ _)); (fail_if_success (with_reducible show Ur.rEqL _ _ _ _ _ _)); (fail_if_success (refine Ur.isWN ?_)); (fail_if_success (refine Ur.isW4 ?_)); apply Exists.intro)))
local macro_rules | `(tactic| kqd_all) => `(tactic| repeat (first
  | (with_reducible refine Ur.tCi ?_)
  | (with_reducible refine Ur.tNilI ?_)
  | (with_reducible refine L2.iteF ?_)
  | (with_reducible refine L2.iteT ?_)
  | (with_reducible refine Ur.neg_same ?_)
  | (with_reducible refine Ur.pos_same ?_)
  | ((with_reducible apply Ur.isiK); (focus (first | exact Ur.tyx_int | exact Ur.tyx_bl | exact Ur.tyx_non | exact Ur.tyx_str | exact Ur.tyx_lst (by kct_strs) | exact Ur.tyx_tup (by kct_strs) | exact Ur.tyx_dK (by kct_strs))); (focus (first | exact Ur.kb_int_int | exact Ur.kb_int_bool | exact Ur.kb_int_str | exact Ur.kb_int_list | exact Ur.kb_int_tuple | exact Ur.kb_int_dict | exact Ur.kb_bool_int | exact Ur.kb_bool_bool | exact Ur.kb_bool_str | exact Ur.kb_bool_list | exact Ur.kb_bool_tuple | exact Ur.kb_bool_dict | exact Ur.kb_str_int | exact Ur.kb_str_bool | exact Ur.kb_str_str | exact Ur.kb_str_list | exact Ur.kb_str_tuple | exact Ur.kb_str_dict | exact Ur.kb_NoneType_int | exact Ur.kb_NoneType_bool | exact Ur.kb_NoneType_str | exact Ur.kb_NoneType_list | exact Ur.kb_NoneType_tuple | exact Ur.kb_NoneType_dict | exact Ur.kb_list_int | exact Ur.kb_list_bool | exact Ur.kb_list_str | exact Ur.kb_list_list | exact Ur.kb_list_tuple | exact Ur.kb_list_dict | exact Ur.kb_tuple_int | exact Ur.kb_tuple_bool | exact Ur.kb_tuple_str | exact Ur.kb_tuple_list | exact Ur.kb_tuple_tuple | exact Ur.kb_tuple_dict | exact Ur.kb_dict_int | exact Ur.kb_dict_bool | exact Ur.kb_dict_str | exact Ur.kb_dict_list | exact Ur.kb_dict_tuple | exact Ur.kb_dict_dict)))
  | ((with_reducible apply Ur.isiK); (focus (with_reducible assumption)); (focus (with_reducible assumption)))
  | ((with_reducible apply Ur.isK1); (focus kct_strs); (focus (with_reducible assumption)); (focus (with_reducible assumption)))
  | ((with_reducible apply Ur.isKT); (focus kct_strs); (focus (with_reducible assumption)); (focus (with_reducible assumption)))
  | ((with_reducible apply Ur.isK2); (focus kct_strs); (focus (with_reducible assumption)); (focus (with_reducible assumption)); (focus kct_strs); (focus rfl))
  | (with_reducible refine Ur.isN_ref ?_)
  | ((with_reducible apply Ur.isX1); (focus (with_reducible assumption)); (focus (with_reducible assumption)))
  | ((with_reducible apply Ur.isXT); (focus (with_reducible assumption)); (focus (with_reducible assumption)))
  | ((with_reducible apply Ur.isX2); (focus (with_reducible assumption)); (focus (with_reducible assumption)); (focus kct_strs); (focus rfl))
  | ((with_reducible apply Ur.rEq_kinds); (focus kct_strs); (focus kct_strs))
  | ((with_reducible apply Ur.len_ints); (focus kct_strs))
  | ((with_reducible apply Ur.len_refs); (focus kct_strs))
  | ((with_reducible apply Ur.in_int); (focus kct_strs))
  | ((with_reducible apply Ur.notin_int); (focus kct_strs))
  | ((with_reducible apply Ur.setd_int); (focus kct_strs))
  | ((with_reducible apply Ur.repr_pair); (focus kct_strs))
  | ((with_reducible apply Ur.pop1_int); (focus kct_strs); (focus assumption))
  | ((with_reducible apply Ur.index_int); (focus kct_strs))
  | ((with_reducible apply Ur.rEq_intsN); (focus kct_strs); (focus kct_strs))
  | ((with_reducible apply Ur.rNe_intsN); (focus kct_strs); (focus kct_strs))
  | ((with_reducible apply Ur.rEq_ints); (focus kct_strs); (focus kct_strs))
  | ((with_reducible apply Ur.rNe_ints); (focus kct_strs); (focus kct_strs))
  | (with_reducible refine Ur.noN ?_)
  | (with_reducible refine Ur.noNn ?_)
  | ((with_reducible refine Ur.brT ?_ ?_); (focus omega))
  | ((with_reducible refine Ur.brF ?_ ?_); (focus omega))
  | ((with_reducible refine Ur.brnT ?_ ?_); (focus omega))
  | ((with_reducible refine Ur.brnF ?_ ?_); (focus omega))
  | (refine And.intro ?_ ?_; (first | (focus tb_rel) | rotate_left 1))
  | refine Or.inl ⟨_, rfl, ?_⟩
  | refine Or.inr ⟨_, rfl, ?_⟩
  | ((fail_if_success (with_reducible show L2.rEqD _ _ _ _ _)); (fail_if_success (with_reducible show L2.rNeD _ _ _ _ _)); (fail_if_success (with_reducible show Ur.rRepr _ _ _ _)); (fail_if_success (with_reducible show Ur.rEqL _ _ _ _ _ _)); (fail_if_success (refine Ur.isWN ?_)); (fail_if_success (refine Ur.isW4 ?_)); apply Exists.intro)
  | intro _))
local macro_rules | `(tactic| kcj_in) => `(tactic| first
  | (with_reducible exact L2.Same.refl _)
  | (with_reducible assumption)
  | ((with_reducible apply Ur.same_snoc); (focus (with_reducible assumption)); kcj_in)
  | ((with_reducible apply Ur.same_upd'); (focus cc_off); kcj_in)
  | ((with_reducible apply Ur.same_step); (focus (with_reducible assumption)); kcj_in)
  | ((with_reducible apply Ur.same_pairs); (focus (with_reducible assumption)); kcj_in)
  | ((with_reducible apply Ur.same_but); (focus (with_reducible assumption)); (focus cc_off); kcj_in))
local macro_rules | `(tactic| cc_off) => `(tactic| first
  | (with_reducible assumption)
  | ((with_reducible apply Ur.same_free); (focus (with_reducible assumption)); kcj_in)
  | ((with_reducible apply Ur.but_free); (focus (with_reducible assumption)); (focus cc_are); kct_strs))
local macro_rules | `(tactic| cc_are) => `(tactic| first
  | (with_reducible exact Ur.but_refl)
  | (with_reducible assumption)
  | ((with_reducible apply Ur.but_at); cc_are)
  | ((with_reducible apply Ur.but_snoc); (focus (with_reducible assumption)); cc_are)
  | ((with_reducible apply Ur.but_upd); (focus cc_off); cc_are)
  | ((with_reducible apply Ur.but_step); (focus (with_reducible assumption)); cc_are)
  | ((with_reducible apply Ur.but_step'); (focus (with_reducible assumption)); cc_are))
local macro_rules | `(tactic| kqd_in) => `(tactic| (kqd_all; try ((first | refine Ur.bri (fun _ => ?_) (fun _ => ?_) | refine Ur.brni (fun _ => ?_) (fun _ => ?_) | refine Ur.br (fun _ => ?_) (fun _ => ?_) | refine Ur.brn (fun _ => ?_) (fun _ => ?_) | refine Ur.brb (fun _ => ?_) (fun _ => ?_)) <;> kqd_in)))
namespace Ur
open PySem L2
def top (i : Nat) : Stmt := PySem.Challenge.pw_unlikerow_k33_tables_spoilt.main.body.getD i (.Pass ⟨0, 0, 0, 0⟩)
abbrev s__law_lines : Stmt := top 27
theorem sc__law_lines : FnScope ["row", "lines", "first", "met", "line", "number"] ["row"] (defScope s__law_lines) := ⟨rfl, rfl, rfl, by decide +kernel, rfl, by decide +kernel, by decide +kernel⟩
abbrev s__law_next : Stmt := top 24
theorem sc__law_next : FnScope ["purse"] ["purse"] (defScope s__law_next) := ⟨rfl, rfl, rfl, by decide +kernel, rfl, by decide +kernel, by decide +kernel⟩
abbrev s__law_lines_otherwise : Stmt := top 35
theorem sc__law_lines_otherwise : FnScope ["purse", "table", "first", "other", "line", "some", "kind", "rows"] ["purse", "table"] (defScope s__law_lines_otherwise) := ⟨rfl, rfl, rfl, by decide +kernel, rfl, by decide +kernel, by decide +kernel⟩
abbrev s__law_mixed : Stmt := top 22
theorem sc__law_mixed : FnScope ["cell", "k", "number"] ["cell", "k"] (defScope s__law_mixed) := ⟨rfl, rfl, rfl, by decide +kernel, rfl, by decide +kernel, by decide +kernel⟩
abbrev s__law_purse : Stmt := top 23
theorem sc__law_purse : FnScope ["script", "at", "step", "many", "cells", "rests", "purse", "k", "place", "cell"] ["script", "at", "step", "many"] (defScope s__law_purse) := ⟨rfl, rfl, rfl, by decide +kernel, rfl, by decide +kernel, by decide +kernel⟩
abbrev s__law_most : Stmt := top 36
theorem sc__law_most : FnScope ["script", "k"] ["script", "k"] (defScope s__law_most) := ⟨rfl, rfl, rfl, by decide +kernel, rfl, by decide +kernel, by decide +kernel⟩
abbrev s__law_with : Stmt := top 33
theorem sc__law_with : FnScope ["table", "first", "at", "thing", "line"] ["table", "first", "at", "thing"] (defScope s__law_with) := ⟨rfl, rfl, rfl, by decide +kernel, rfl, by decide +kernel, by decide +kernel⟩
abbrev s__law_one_otherwise : Stmt := top 34
theorem sc__law_one_otherwise : FnScope ["purse", "table", "first", "at", "number", "some", "kind"] ["purse", "table"] (defScope s__law_one_otherwise) := ⟨rfl, rfl, rfl, by decide +kernel, rfl, by decide +kernel, by decide +kernel⟩
abbrev s_is_whole_lasts : Stmt := top 9
theorem sc_is_whole_lasts : FnScope ["thing"] ["thing"] (defScope s_is_whole_lasts) := ⟨rfl, rfl, rfl, by decide +kernel, rfl, by decide +kernel, by decide +kernel⟩
abbrev s_are_lasts : Stmt := top 11
theorem sc_are_lasts : FnScope ["thing", "met", "place", "last"] ["thing"] (defScope s_are_lasts) := ⟨rfl, rfl, rfl, by decide +kernel, rfl, by decide +kernel, by decide +kernel⟩
abbrev s_is_whole_tables : Stmt := top 16
theorem sc_is_whole_tables : FnScope ["thing"] ["thing"] (defScope s_is_whole_tables) := ⟨rfl, rfl, rfl, by decide +kernel, rfl, by decide +kernel, by decide +kernel⟩
abbrev s_is_shaped : Stmt := top 18
theorem sc_is_shaped : FnScope ["thing", "first", "line", "number"] ["thing"] (defScope s_is_shaped) := ⟨rfl, rfl, rfl, by decide +kernel, rfl, by decide +kernel, by decide +kernel⟩
abbrev s_lasts_by : Stmt := top 19
theorem sc_lasts_by : FnScope ["table", "found", "place", "lines", "first", "line"] ["table"] (defScope s_lasts_by) := ⟨rfl, rfl, rfl, by decide +kernel, rfl, by decide +kernel, by decide +kernel⟩
abbrev s_row_of : Stmt := top 12
theorem sc_row_of : FnScope ["lasts", "found", "many", "last"] ["lasts"] (defScope s_row_of) := ⟨rfl, rfl, rfl, by decide +kernel, rfl, by decide +kernel, by decide +kernel⟩
abbrev s_line_of : Stmt := top 14
theorem sc_line_of : FnScope ["row", "held", "found", "number"] ["row"] (defScope s_line_of) := ⟨rfl, rfl, rfl, by decide +kernel, rfl, by decide +kernel, by decide +kernel⟩
abbrev s_table_of : Stmt := top 15
theorem sc_table_of : FnScope ["row", "first"] ["row"] (defScope s_table_of) := ⟨rfl, rfl, rfl, by decide +kernel, rfl, by decide +kernel, by decide +kernel⟩
abbrev s_row_of_table : Stmt := top 20
theorem sc_row_of_table : FnScope ["thing", "lasts", "row"] ["thing"] (defScope s_row_of_table) := ⟨rfl, rfl, rfl, by decide +kernel, rfl, by decide +kernel, by decide +kernel⟩
abbrev s__law_asked : Stmt := top 31
theorem sc__law_asked : FnScope ["thing", "found", "kinds", "e"] ["thing"] (defScope s__law_asked) := ⟨rfl, rfl, rfl, by decide +kernel, rfl, by decide +kernel, by decide +kernel⟩
abbrev s__law_is_list : Stmt := top 29
theorem sc__law_is_list : FnScope ["thing", "size"] ["thing", "size"] (defScope s__law_is_list) := ⟨rfl, rfl, rfl, by decide +kernel, rfl, by decide +kernel, by decide +kernel⟩
abbrev s__law_plain : Stmt := top 28
theorem sc__law_plain : FnScope ["row", "names", "found", "number"] ["row"] (defScope s__law_plain) := ⟨rfl, rfl, rfl, by decide +kernel, rfl, by decide +kernel, by decide +kernel⟩
abbrev s__law_row_of : Stmt := top 30
theorem sc__law_row_of : FnScope ["thing", "many", "first", "row", "place", "name", "one"] ["thing"] (defScope s__law_row_of) := ⟨rfl, rfl, rfl, by decide +kernel, rfl, by decide +kernel, by decide +kernel⟩
abbrev s__law_right : Stmt := top 32
theorem sc__law_right : FnScope ["thing", "due", "found"] ["thing"] (defScope s__law_right) := ⟨rfl, rfl, rfl, by decide +kernel, rfl, by decide +kernel, by decide +kernel⟩
abbrev s__law_value : Stmt := top 25
theorem sc__law_value : FnScope ["way", "at"] ["way", "at"] (defScope s__law_value) := ⟨rfl, rfl, rfl, by decide +kernel, rfl, by decide +kernel, by decide +kernel⟩
abbrev s__law_row : Stmt := top 26
theorem sc__law_row : FnScope ["purse", "most", "unlike", "way", "many", "kind", "places", "k", "drawn", "turns", "size", "wide", "again", "at"] ["purse", "most"] (defScope s__law_row) := ⟨rfl, rfl, rfl, by decide +kernel, rfl, by decide +kernel, by decide +kernel⟩
abbrev s_law : Stmt := top 37
theorem sc_law : FnScope ["script", "k", "purse", "row", "table", "once", "things", "at", "number", "thing", "line"] ["script"] (defScope s_law) := ⟨rfl, rfl, rfl, by decide +kernel, rfl, by decide +kernel, by decide +kernel⟩
/-- where the defs and classes stand -/
structure Adr where
  f__law_lines : Addr
  d__law_lines : FuncData
  f__law_next : Addr
  d__law_next : FuncData
  f__law_lines_otherwise : Addr
  d__law_lines_otherwise : FuncData
  f__law_mixed : Addr
  d__law_mixed : FuncData
  f__law_purse : Addr
  d__law_purse : FuncData
  f__law_most : Addr
  d__law_most : FuncData
  f__law_with : Addr
  d__law_with : FuncData
  f__law_one_otherwise : Addr
  d__law_one_otherwise : FuncData
  f_is_whole_lasts : Addr
  d_is_whole_lasts : FuncData
  f_are_lasts : Addr
  d_are_lasts : FuncData
  f_is_whole_tables : Addr
  d_is_whole_tables : FuncData
  f_is_shaped : Addr
  d_is_shaped : FuncData
  f_lasts_by : Addr
  d_lasts_by : FuncData
  f_row_of : Addr
  d_row_of : FuncData
  f_line_of : Addr
  d_line_of : FuncData
  f_table_of : Addr
  d_table_of : FuncData
  f_row_of_table : Addr
  d_row_of_table : FuncData
  f__law_asked : Addr
  d__law_asked : FuncData
  f__law_is_list : Addr
  d__law_is_list : FuncData
  f__law_plain : Addr
  d__law_plain : FuncData
  f__law_row_of : Addr
  d__law_row_of : FuncData
  f__law_right : Addr
  d__law_right : FuncData
  f__law_value : Addr
  d__law_value : FuncData
  f__law_row : Addr
  d__law_row : FuncData
  f_law : Addr
  d_law : FuncData
  c_NoTable : Addr
  c_RowError : Addr
  c_NoCommand : Addr
  c_NoNeeds : Addr
  c_NoPlace : Addr
  c_NoRow : Addr
  c_NoWindow : Addr
structure Txt (K : PySem.W.Frag) (mg : Str → Option Value) (A : Adr) : Prop where
  F__law_lines : Fun K "_law_lines" "_law_lines" s__law_lines A.f__law_lines A.d__law_lines
  b__law_lines : Binds K A.d__law_lines ["row"] []
  g__law_lines : mg "_law_lines" = some (.ref A.f__law_lines)
  F__law_next : Fun K "_law_next" "_law_next" s__law_next A.f__law_next A.d__law_next
  b__law_next : Binds K A.d__law_next ["purse"] []
  g__law_next : mg "_law_next" = some (.ref A.f__law_next)
  F__law_lines_otherwise : Fun K "_law_lines_otherwise" "_law_lines_otherwise" s__law_lines_otherwise A.f__law_lines_otherwise A.d__law_lines_otherwise
  b__law_lines_otherwise : Binds K A.d__law_lines_otherwise ["purse", "table"] []
  g__law_lines_otherwise : mg "_law_lines_otherwise" = some (.ref A.f__law_lines_otherwise)
  F__law_mixed : Fun K "_law_mixed" "_law_mixed" s__law_mixed A.f__law_mixed A.d__law_mixed
  b__law_mixed : Binds K A.d__law_mixed ["cell", "k"] []
  g__law_mixed : mg "_law_mixed" = some (.ref A.f__law_mixed)
  F__law_purse : Fun K "_law_purse" "_law_purse" s__law_purse A.f__law_purse A.d__law_purse
  b__law_purse : Binds K A.d__law_purse ["script", "at", "step", "many"] []
  g__law_purse : mg "_law_purse" = some (.ref A.f__law_purse)
  F__law_most : Fun K "_law_most" "_law_most" s__law_most A.f__law_most A.d__law_most
  b__law_most : Binds K A.d__law_most ["script", "k"] []
  g__law_most : mg "_law_most" = some (.ref A.f__law_most)
  F__law_with : Fun K "_law_with" "_law_with" s__law_with A.f__law_with A.d__law_with
  b__law_with : Binds K A.d__law_with ["table", "first", "at", "thing"] []
  g__law_with : mg "_law_with" = some (.ref A.f__law_with)
  F__law_one_otherwise : Fun K "_law_one_otherwise" "_law_one_otherwise" s__law_one_otherwise A.f__law_one_otherwise A.d__law_one_otherwise
  b__law_one_otherwise : Binds K A.d__law_one_otherwise ["purse", "table"] []
  g__law_one_otherwise : mg "_law_one_otherwise" = some (.ref A.f__law_one_otherwise)
  F_is_whole_lasts : Fun K "is_whole" "is_whole" s_is_whole_lasts A.f_is_whole_lasts A.d_is_whole_lasts
  b_is_whole_lasts : Binds K A.d_is_whole_lasts ["thing"] []
  g_is_whole_lasts : mg "is_whole_lasts" = some (.ref A.f_is_whole_lasts)
  F_are_lasts : Fun K "are_lasts" "are_lasts" s_are_lasts A.f_are_lasts A.d_are_lasts
  b_are_lasts : Binds K A.d_are_lasts ["thing"] []
  g_are_lasts : mg "are_lasts" = some (.ref A.f_are_lasts)
  F_is_whole_tables : Fun K "is_whole" "is_whole" s_is_whole_tables A.f_is_whole_tables A.d_is_whole_tables
  b_is_whole_tables : Binds K A.d_is_whole_tables ["thing"] []
  g_is_whole_tables : mg "is_whole_tables" = some (.ref A.f_is_whole_tables)
  F_is_shaped : Fun K "is_shaped" "is_shaped" s_is_shaped A.f_is_shaped A.d_is_shaped
  b_is_shaped : Binds K A.d_is_shaped ["thing"] []
  g_is_shaped : mg "is_shaped" = some (.ref A.f_is_shaped)
  F_lasts_by : Fun K "lasts_by" "lasts_by" s_lasts_by A.f_lasts_by A.d_lasts_by
  b_lasts_by : Binds K A.d_lasts_by ["table"] []
  g_lasts_by : mg "lasts_by" = some (.ref A.f_lasts_by)
  F_row_of : Fun K "row_of" "row_of" s_row_of A.f_row_of A.d_row_of
  b_row_of : Binds K A.d_row_of ["lasts"] []
  g_row_of : mg "row_of" = some (.ref A.f_row_of)
  F_line_of : Fun K "line_of" "line_of" s_line_of A.f_line_of A.d_line_of
  b_line_of : Binds K A.d_line_of ["row"] []
  g_line_of : mg "line_of" = some (.ref A.f_line_of)
  F_table_of : Fun K "table_of" "table_of" s_table_of A.f_table_of A.d_table_of
  b_table_of : Binds K A.d_table_of ["row"] []
  g_table_of : mg "table_of" = some (.ref A.f_table_of)
  F_row_of_table : Fun K "row_of_table" "row_of_table" s_row_of_table A.f_row_of_table A.d_row_of_table
  b_row_of_table : Binds K A.d_row_of_table ["thing"] []
  g_row_of_table : mg "row_of_table" = some (.ref A.f_row_of_table)
  F__law_asked : Fun K "_law_asked" "_law_asked" s__law_asked A.f__law_asked A.d__law_asked
  b__law_asked : Binds K A.d__law_asked ["thing"] []
  g__law_asked : mg "_law_asked" = some (.ref A.f__law_asked)
  F__law_is_list : Fun K "_law_is_list" "_law_is_list" s__law_is_list A.f__law_is_list A.d__law_is_list
  b__law_is_list : Binds K A.d__law_is_list ["thing", "size"] []
  g__law_is_list : mg "_law_is_list" = some (.ref A.f__law_is_list)
  F__law_plain : Fun K "_law_plain" "_law_plain" s__law_plain A.f__law_plain A.d__law_plain
  b__law_plain : Binds K A.d__law_plain ["row"] []
  g__law_plain : mg "_law_plain" = some (.ref A.f__law_plain)
  F__law_row_of : Fun K "_law_row_of" "_law_row_of" s__law_row_of A.f__law_row_of A.d__law_row_of
  b__law_row_of : Binds K A.d__law_row_of ["thing"] []
  g__law_row_of : mg "_law_row_of" = some (.ref A.f__law_row_of)
  F__law_right : Fun K "_law_right" "_law_right" s__law_right A.f__law_right A.d__law_right
  b__law_right : Binds K A.d__law_right ["thing"] []
  g__law_right : mg "_law_right" = some (.ref A.f__law_right)
  F__law_value : Fun K "_law_value" "_law_value" s__law_value A.f__law_value A.d__law_value
  b__law_value : Binds K A.d__law_value ["way", "at"] []
  g__law_value : mg "_law_value" = some (.ref A.f__law_value)
  F__law_row : Fun K "_law_row" "_law_row" s__law_row A.f__law_row A.d__law_row
  b__law_row : Binds K A.d__law_row ["purse", "most"] []
  g__law_row : mg "_law_row" = some (.ref A.f__law_row)
  F_law : Fun K "law" "law" s_law A.f_law A.d_law
  b_law : Binds K A.d_law ["script"] []
  g_law : mg "law" = some (.ref A.f_law)
  g_NoTable : mg "NoTable" = some (.ref A.c_NoTable)
  g_RowError : mg "RowError" = some (.ref A.c_RowError)
  g_NoCommand : mg "NoCommand" = some (.ref A.c_NoCommand)
  g_NoNeeds : mg "NoNeeds" = some (.ref A.c_NoNeeds)
  g_NoPlace : mg "NoPlace" = some (.ref A.c_NoPlace)
  g_NoRow : mg "NoRow" = some (.ref A.c_NoRow)
  g_NoWindow : mg "NoWindow" = some (.ref A.c_NoWindow)
  m_ValueError : mg "ValueError" = none
  m_abs : mg "abs" = none
  m_all : mg "all" = none
  m_bool : mg "bool" = none
  m_enumerate : mg "enumerate" = none
  m_int : mg "int" = none
  m_isinstance : mg "isinstance" = none
  m_len : mg "len" = none
  m_list : mg "list" = none
  m_range : mg "range" = none
  m_repr : mg "repr" = none
  m_reversed : mg "reversed" = none
  m_set : mg "set" = none
  m_str : mg "str" = none
  m_tuple : mg "tuple" = none
  x_NoTable : PySem.W.excIn K A.c_NoTable [.type "ValueError", .type "Exception", .type "BaseException", .type "object"] "ValueError.__new__" = true
  k_NoTable : PySem.W.keepIn K (.ref A.c_NoTable) = true
  b_NoTable : PySem.W.subIn K (.ref A.c_NoTable) (.type "BaseException") = some true
  t_NoTable : PySem.W.typeIn K (.ref A.c_NoTable) = some (.type "type")
  h_NoTable : PySem.W.hasDictIn K A.c_NoTable = true
  b_RowError : PySem.W.subIn K (.ref A.c_RowError) (.type "BaseException") = some true
  t_RowError : PySem.W.typeIn K (.ref A.c_RowError) = some (.type "type")
  h_RowError : PySem.W.hasDictIn K A.c_RowError = true
  s_NoTable_RowError : PySem.W.subIn K (.ref A.c_NoTable) (.ref A.c_RowError) = some true
  q_NoTable_NoTable : PySem.W.kitOne K (.ref A.c_NoTable) (.ref A.c_NoTable) = some true
  q_NoTable_ValueError : PySem.W.kitOne K (.ref A.c_NoTable) (.type "ValueError") = some true
  q_NoTable_NoCommand : PySem.W.kitOne K (.ref A.c_NoTable) (.ref A.c_NoCommand) = some false
  q_NoTable_NoNeeds : PySem.W.kitOne K (.ref A.c_NoTable) (.ref A.c_NoNeeds) = some false
  q_NoTable_NoPlace : PySem.W.kitOne K (.ref A.c_NoTable) (.ref A.c_NoPlace) = some false
  q_NoTable_NoRow : PySem.W.kitOne K (.ref A.c_NoTable) (.ref A.c_NoRow) = some false
  q_NoTable_NoWindow : PySem.W.kitOne K (.ref A.c_NoTable) (.ref A.c_NoWindow) = some false
  Ehg_NoTable : PySem.W.findIn K (.ref A.c_NoTable) "__getattribute__" = some (some (.builtin "BaseException.__getattribute__"))
  Ehk_NoTable : PySem.W.findIn K (.ref A.c_NoTable) "__getattr__" = some none
  Eha_NoTable : PySem.W.findIn K (.ref A.c_NoTable) "__class__" = some (some (.builtin "object.__class__"))
  Ehm_NoTable : PySem.W.mroIn K A.c_NoTable (.type "object") = some true
  Ehn : PySem.W.specialIn K (.builtin "object.__class__") "__get__" = some (some (.builtin "getset_descriptor.__get__"))
  Eht : PySem.W.takesIn K (.builtin "object.__class__") = some true
variable {K : PySem.W.Frag} {mg : Str → Option Value} {A : Adr}
theorem Txt.m_NoTable_RowError (T : Txt K mg A) : PySem.W.exmOne K (.ref A.c_NoTable) (.ref A.c_RowError) = some true := PySem.W.exm_ref T.b_RowError T.h_RowError T.t_RowError T.s_NoTable_RowError
theorem Txt.E_NoTable (T : Txt K mg A) : ExcC K A.c_NoTable := ⟨T.Ehg_NoTable, T.Ehk_NoTable, T.b_NoTable, T.h_NoTable, T.Eha_NoTable, T.Ehn, T.Eht, T.Ehm_NoTable⟩
end Ur
namespace Ur
open PySem L2
/-- how many unlike numbers all windows have: lines by first places, new lists -/
def sp__law_lines (K : PySem.W.Frag) : Sp := fun vs H Q _ => ∃ (a : Addr) (ns : List Int), vs = [.ref a] ∧ SqL K H a (ns.map V.int) ∧ ns.length ≤ 1000 ∧ ∀ p (ls : List Addr) H', H' p = some (.lst (ls.map V.ref)) → ls.length = ns.length + 1 → (∀ f l, ls[f]? = some l → H' l = some (.lst ((lineW ns f).map V.int)) ∧ H l = none) → Same H H' → H p = none → Q (.ref p) H'
section
variable {P : Program} {w : World} {K : PySem.W.Frag} {mg : Str → Option Value} {base : Heap} {A : Adr}
theorem ok__law_lines (T : Txt K mg A) : FnOk P w K mg base CX0 1 A.f__law_lines A.d__law_lines ["row"] (sp__law_lines K) := by
  refine T.F__law_lines.ok sc__law_lines (fun vs H Q E h => ?_) (fun cdv Ar outer s H vs Q E hr h => ?_)
  · obtain ⟨a, ns, rfl, _⟩ := h
    rfl
  · obtain ⟨a, ns, rfl, ha, hl, q⟩ := h
    refine ⟨_, (pss_cons (ps_set (i := 1) sc__law_lines.nd rfl (Or.inl rfl) (pe_lst pa_nil))
    (pss_cons (ps_for PassesOwn.never (by rfl) (pi_range1 (by rfl) T.m_range (pa_cons (pe_op op_add (Ur.pe_b1 (Ur.call_lenIK (K := K) rfl) (by rfl) T.m_len (by decide +kernel) (pv 0)) pe_int) pa_nil)) (pg_name (i := 2) sc__law_lines.nd rfl (Or.inl rfl)) (pss_cons (ps_set (i := 3) sc__law_lines.nd rfl (Or.inl rfl) pe_dnewK)
    (pss_cons (ps_set (i := 4) sc__law_lines.nd rfl (Or.inl rfl) (pe_lst (pa_cons pe_int pa_nil)))
    (pss_cons (ps_for PassesOwn.never (by rfl) (pi_list (pe_slice (Ur.sl_listK (K := K) rfl) (pv 0) (po_some (pv 2)) po_none)) (pg_name (i := 5) sc__law_lines.nd rfl (Or.inl rfl)) (pss_cons (ps_dput (hu_of hr) (pv 3) (pv 5) pe_bl rfl)
    (pss_one (ps_expr (pe_bm PySem.F.plainAttrs_list PySem.F.slot_list_append PySem.F.type_list_append mt_append (pv 4) (pa_cons (Ur.pe_b1 call_lenD (by rfl) T.m_len (by decide +kernel) (pv 3)) pa_nil))))))
    (pss_one (ps_expr (pe_bm PySem.F.plainAttrs_list PySem.F.slot_list_append PySem.F.type_list_append mt_append (pv 1) (pa_cons (pv 4) pa_nil))))))))
    (pss_one (ps_ret (pv 1))))), ?_⟩
    tb_start
    intro P nP
    tb_start
    refine for_range (fun i σ H' => Iv (∃ (u2 u3 u4 u5 : Option V) (ls : List Addr), σ = [some (.ref a), some (.ref P), u2, u3, u4, u5] ∧ H' P = some (.lst (ls.map V.ref)) ∧ ls.length = i ∧ (∀ f l, ls[f]? = some l → H' l = some (.lst ((lineW ns f).map V.int)) ∧ H l = none ∧ l ≠ P) ∧ Same H H')) ?h0 ?hs ?hd
    case h0 => exact ⟨_, _, _, _, [], rfl, upd_same, rfl, (fun f l e => by cases e), by kcj_in⟩
    case hs =>
      rintro i σ H1 hi ⟨u2, u3, u4, u5, ls, rfl, eP, hls, hL, s1⟩
      have hi2 : i ≤ ns.length := by omega
      tb_start
      intro m nm
      tb_start
      intro l nl
      tb_start
      intro c nc
      have hml : m ≠ l := by kcj_m
      have hmP : P ≠ m := by kcj_m
      have hlP : P ≠ l := by kcj_m
      have ecut : (cutV (ns.map V.int) (some (0 + (i : Int))) none) = (ns.drop i).map V.int := by
        rw [cutI_from ns (by omega), show ((0 : Int) + (i : Int)).toNat = i by omega]
      rw [ecut]
      tb_start
      refine for_ints (ns := ns.drop i) (fun k σ H' => Iv (∃ (u5 : Option V) (kvs : List (Key × V)), σ = [some (.ref a), some (.ref P), some (.int (0 + (i : Int))), some (.ref m), some (.ref l), u5] ∧ H' c = some (.lst ((ns.drop i).map V.int)) ∧ H' m = some (.dK kvs) ∧ Met kvs ((ns.drop i).take k) ∧ H' l = some (.lst (((lineW ns i).take (k + 1)).map V.int)) ∧ Same H1 H')) ?i0 ?il ?is ?id
      case i0 =>
        refine ⟨_, [], rfl, upd_same, by kct_strs, Met.nil, lst_cast (by kct_strs) ?_, by kcj_in⟩
        rw [take_snoc (lineW_get (by omega)), Nat.add_zero, wunN_none]
        rfl
      case il =>
        rintro k σ H' hk ⟨u5, kvs, rfl, ec, em, hv, el, s2⟩
        kct_strs
      case is =>
        rintro k x σ H' hk ⟨u5, kvs, rfl, ec, em, hv, el, s2⟩
        have hk2 : i + k < ns.length := by
          have := (List.getElem?_eq_some_iff.mp hk).1
          rw [List.length_drop] at this; omega
        have hul := ulen_le ((ns.drop i).take k)
        have hvl := hv.len
        rw [List.length_take, List.length_drop] at hul
        tb_start
        have hv' := hv.put x (.bl true)
        rw [← take_snoc hk] at hv'
        refine ⟨_, _, rfl, by kct_strs, by kct_strs, hv', lst_cast (by kct_strs) ?_, by kcj_in⟩
        have e1 : (lineW ns i).take (k + 1 + 1) = (lineW ns i).take (k + 1) ++ [((ulen ((ns.drop i).take (k + 1)) : Nat) : Int)] := by
          rw [take_snoc (lineW_get (k := k + 1) (by omega))]
          show _ ++ [((ulen ((ns.drop i).take (i + (k + 1) - i)) : Nat) : Int)] = _
          rw [show i + (k + 1) - i = k + 1 by omega]
        rw [e1, hv'.len, List.map_append (l₁ := (lineW ns i).take (k + 1))]
      case id =>
        rintro σ H' ⟨u5, kvs, rfl, ec, em, hv, el, s2⟩
        have el2 : H' l = some (.lst ((lineW ns i).map V.int)) := lst_cast el (by rw [List.take_of_length_le (by rw [lineW_len, List.length_drop]; omega)])
        have nHl : H l = none := by cc_off
        tb_start
        refine ⟨_, _, _, _, ls ++ [l], rfl, ?_, by rw [List.length_append, hls]; rfl, fun f l' e => ?_, by kcj_in⟩
        · rw [upd_same, List.map_append]; rfl
        · by_cases hf : f < ls.length
          · rw [List.getElem?_append_left hf] at e
            obtain ⟨h1, h2, h3⟩ := hL f l' e
            exact ⟨by kct_strs, h2, h3⟩
          · have hf2 : f = ls.length := by
              have := (List.getElem?_eq_some_iff.mp e).1
              rw [List.length_append] at this
              have : [l].length = 1 := rfl
              omega
            subst hf2
            rw [List.getElem?_append_right (Nat.le_refl _), Nat.sub_self] at e
            cases e
            rw [hls]
            exact ⟨by kct_strs, nHl, Ne.symm hlP⟩
    case hd =>
      rintro σ H' ⟨u2, u3, u4, u5, ls, rfl, eP, hls, hL, s1⟩
      tb_start
      exact q P ls _ eP (by omega) (fun f l e => ⟨(hL f l e).1, (hL f l e).2.1⟩) s1 (by cc_off)
end
end Ur
namespace Ur
open PySem L2
/-- the next number of a purse, or 0 -/
def sp__law_next (K : PySem.W.Frag) : Sp := fun vs H Q _ => ∃ (a : Addr) (ns : List Int), vs = [.ref a] ∧ H a = some (.lst (ns.map V.int)) ∧ (∀ x ∈ ns, 0 ≤ x) ∧ ∀ (n : Int) (ms : List Int) H', 0 ≤ n → (∀ x ∈ ms, 0 ≤ x) → H' a = some (.lst (ms.map V.int)) → But a H H' → Q (.int n) H'
section
variable {P : Program} {w : World} {K : PySem.W.Frag} {mg : Str → Option Value} {base : Heap} {A : Adr}
theorem ok__law_next (T : Txt K mg A) : FnOk P w K mg base CX0 1 A.f__law_next A.d__law_next ["purse"] (sp__law_next K) := by
  refine T.F__law_next.ok sc__law_next (fun vs H Q E h => ?_) (fun cdv Ar outer s H vs Q E hr h => ?_)
  · obtain ⟨a, ns, rfl, _⟩ := h
    rfl
  · obtain ⟨a, ns, rfl, ha, hp, q⟩ := h
    refine ⟨_, (pss_cons (ps_if (pt_cmpR (Ur.op_eqDK (K := K) rfl hr.units) (pv 0) (pe_lst pa_nil) (nomark _)) (pss_one (ps_ret pe_int)) pss_nil)
    (pss_one (ps_ret (pe_bm0 PySem.F.plainAttrs_list PySem.F.slot_list_pop PySem.F.type_list_pop mt_pop (pv 0))))), ?_⟩
    tb_start
    intro p np
    have hap : a ≠ p := by kcj_m
    tb_start
    refine br (fun hq => ?_) (fun hq => ?_)
    · tb_start
      exact q 0 ns _ (by omega) hp (by kct_strs) (by cc_are)
    · have hpos : 0 < ns.length := by
        cases ns with
        | nil => exact absurd rfl hq
        | cons y ns => exact Nat.succ_pos _
      have e : (ns.map V.int)[(ns.map V.int).length - 1]? = some (V.int (ns.getD (ns.length - 1) 0)) := by
        rw [List.length_map]
        exact iv_get' (get_of (by omega))
      have em : (ns.map V.int).dropLast = ns.dropLast.map V.int := by rw [List.map_dropLast]
      tb_start
      exact q _ ns.dropLast _ (hp _ (List.mem_of_getElem? (get_of (by omega)))) (fun x hx => hp x ((List.dropLast_sublist ns).mem hx)) (lst_cast (by kct_strs) em) (by cc_are)
end
end Ur
namespace Ur
open PySem L2
/-- a table with its lines otherwise -/
def sp__law_lines_otherwise (K : PySem.W.Frag) : Sp := fun vs H Q _ => ∃ (a t : Addr) (ns : List Int) (B : Nat) (ts : List V), vs = [.ref a, .ref t] ∧ H a = some (.lst (ns.map V.int)) ∧ (∀ x ∈ ns, 0 ≤ x) ∧ Tb (Bar1 a) H B t ts ∧ (∀ l ys, V.ref l ∈ ts → H l = some (.lst ys) → ∀ y ∈ ys, ∃ i, y = V.int i) ∧ ∀ v (ms : List Int) H', OD (Bar1 a) H' v → H' a = some (.lst (ms.map V.int)) → (∀ x ∈ ms, 0 ≤ x) → But a H H' → Q v H'
section
variable {P : Program} {w : World} {K : PySem.W.Frag} {mg : Str → Option Value} {base : Heap} {A : Adr}
theorem ok__law_lines_otherwise (T : Txt K mg A) : FnOk P w K mg base CX0 2 A.f__law_lines_otherwise A.d__law_lines_otherwise ["purse", "table"] (sp__law_lines_otherwise K) := by
  have G__law_next := ok__law_next (P := P) (w := w) (base := base) T
  refine T.F__law_lines_otherwise.ok sc__law_lines_otherwise (fun vs H Q E h => ?_) (fun cdv Ar outer s H vs Q E hr h => ?_)
  · obtain ⟨a, t, ns, B, ts, rfl, _⟩ := h
    rfl
  · obtain ⟨a, t, ns, B, ts, rfl, ha, hns, tb, hint, q⟩ := h
    refine ⟨_, (pss_cons (ps_set (i := 2) sc__law_lines_otherwise.nd rfl (Or.inl rfl) (pe_op op_mod (pe_call G__law_next (hr.mono (by decide)) (by rfl) T.g__law_next T.F__law_next.kp T.b__law_next .nil pass0 (pa_cons (pv 0) pa_nil)) (Ur.pe_b1 (Ur.call_lenIK (K := K) rfl) (by rfl) T.m_len (by decide +kernel) (pv 1))))
    (pss_cons (ps_set (i := 3) sc__law_lines_otherwise.nd rfl (Or.inl rfl) (pe_op op_mod (pe_call G__law_next (hr.mono (by decide)) (by rfl) T.g__law_next T.F__law_next.kp T.b__law_next .nil pass0 (pa_cons (pv 0) pa_nil)) (Ur.pe_b1 (Ur.call_lenIK (K := K) rfl) (by rfl) T.m_len (by decide +kernel) (pv 1))))
    (pss_cons (ps_set (i := 4) sc__law_lines_otherwise.nd rfl (Or.inl rfl) (pe_ix (Ur.ix_listK (K := K) rfl) (pv 1) (pv 2) (fun _ _ => rfl)))
    (pss_cons (ps_set (i := 5) sc__law_lines_otherwise.nd rfl (Or.inl rfl) (pe_lst (pa_cons (pe_slice (Ur.sl_listK (K := K) rfl) (pv 4) po_none (po_some (pe_un un_neg pe_int))) (pa_cons (pe_op op_cat (pv 4) (pe_slice (Ur.sl_listK (K := K) rfl) (pv 4) (po_some (pe_un un_neg pe_int)) po_none)) (pa_cons (pe_slice (Ur.sl_listK (K := K) rfl) (pv 4) (po_some pe_int) po_none) (pa_cons (pe_op op_cat (pe_lst (pa_cons pe_int pa_nil)) (pv 4)) (pa_cons (Ur.pe_t1 (Ur.call_tuple_ofK (K := K) rfl) (by rfl) T.m_tuple (by decide +kernel) (pv 4)) (pa_cons pe_non (pa_cons (pe_lst pa_nil) (pa_cons pe_str (pa_cons pe_dnewK (pa_cons (pe_ix (Ur.ix_listK (K := K) rfl) (pv 4) pe_int (fun _ _ => rfl)) pa_nil))))))))))))
    (Evl.pss_cut (ps_set (i := 6) sc__law_lines_otherwise.nd rfl (Or.inl rfl) (pe_op op_mod (pe_call G__law_next (hr.mono (by decide)) (by rfl) T.g__law_next T.F__law_next.kp T.b__law_next .nil pass0 (pa_cons (pv 0) pa_nil)) pe_int))
    (pss_cons (ps_if (pt_cmpR op_lt (pv 6) pe_int (nomark _)) (pss_one (ps_ret (pe_op op_cat (pe_op op_cat (pe_slice (Ur.sl_listK (K := K) rfl) (pv 1) po_none (po_some (pv 2))) (pe_lst (pa_cons (pe_ix (Ur.ix_listK (K := K) rfl) (pv 5) (pv 6) (fun _ _ => rfl)) pa_nil))) (pe_slice (Ur.sl_listK (K := K) rfl) (pv 1) (po_some (pe_op op_add (pv 2) pe_int)) po_none)))) pss_nil)
    (pss_cons (ps_if (pt_cmpR op_eq (pv 6) pe_int (nomark _)) (pss_one (ps_ret (pe_op op_cat (pe_slice (Ur.sl_listK (K := K) rfl) (pv 1) po_none (po_some (pv 2))) (pe_slice (Ur.sl_listK (K := K) rfl) (pv 1) (po_some (pe_op op_add (pv 2) pe_int)) po_none)))) pss_nil)
    (pss_cons (ps_if (pt_cmpR op_eq (pv 6) pe_int (nomark _)) (pss_one (ps_ret (pe_op op_cat (pe_op op_cat (pe_slice (Ur.sl_listK (K := K) rfl) (pv 1) po_none (po_some (pv 2))) (pe_lst (pa_cons (pv 4) pa_nil))) (pe_slice (Ur.sl_listK (K := K) rfl) (pv 1) (po_some (pv 2)) po_none)))) pss_nil)
    (pss_cons (ps_if (pt_cmpR op_eq (pv 6) pe_int (nomark _)) (pss_cons (ps_set (i := 7) sc__law_lines_otherwise.nd rfl (Or.inl rfl) (Ur.pe_t1 (Ur.call_list_ofK (K := K) rfl) (by rfl) T.m_list (by decide +kernel) (pv 1)))
    (pss_cons (ps_asg (pe_ix (Ur.ix_listK (K := K) rfl) (pv 1) (pv 3) (fun _ _ => rfl)) (pg_sub (pv 7) (pv 2) set_list))
    (pss_cons (ps_asg (pv 4) (pg_sub (pv 7) (pv 3) set_list))
    (pss_one (ps_ret (pv 7)))))) pss_nil)
    (pss_cons (ps_if (pt_cmpR op_eq (pv 6) pe_int (nomark _)) (pss_one (ps_ret (Ur.pe_t1 (Ur.call_tuple_ofK (K := K) rfl) (by rfl) T.m_tuple (by decide +kernel) (pv 1)))) pss_nil)
    (pss_one (ps_ret (pe_ix (Ur.ix_listK (K := K) rfl) (pe_lst (pa_cons (pe_ix (Ur.ix_listK (K := K) rfl) (pe_lst (pa_cons (pe_slice (Ur.sl_listK (K := K) rfl) (pv 1) (po_some pe_int) po_none) (pa_cons (pe_slice (Ur.sl_listK (K := K) rfl) (pv 1) po_none (po_some (pe_un un_neg pe_int))) pa_nil))) (pe_op op_sub (pv 6) pe_int) (fun _ _ => rfl)) (pa_cons (pe_op op_cat (pv 1) (pe_lst (pa_cons (pe_lst (pa_cons pe_int pa_nil)) pa_nil))) pa_nil))) (pe_op op_mod (pe_call G__law_next (hr.mono (by decide)) (by rfl) T.g__law_next T.F__law_next.kp T.b__law_next .nil pass0 (pa_cons (pv 0) pa_nil)) pe_int) (fun _ _ => rfl)))))))))))))), ?_⟩
    have et := tb.at_
    tb_start
    intro y1 ms1 H1 hy1 hms1 a1 b1
    have tb1 := tb.but Bar1.self b1
    have b01 : But a H H1 := b1
    have et1 := tb1.at_
    have htl := tb1.pos
    have htL := tb1.le
    obtain ⟨x, hx, hxm, hxi⟩ := atI_get (xs := ts) (i := y1 % (ts.length : Int)) (Int.emod_nonneg _ (by omega)) (Int.emod_lt_of_pos _ (by omega))
    have tb0 := tb
    clear tb et b1
    tb_start
    intro y2 ms2 H2 hy2 hms2 a2 b2
    have b02 : But a H H2 := but_step b2 b01
    have tb2 := tb1.but Bar1.self b2
    have et2 := tb2.at_
    obtain ⟨l, ys, rfl, el2, hl1, hl2, hla, fys⟩ := (tb2.line x hxm).ex
    obtain ⟨z, hz, hzm, hzi⟩ := atI_get (xs := ys) (i := 0) (by omega) (by omega)
    have vz := VB.its fys
    have oz : Th (Bar1 a) H2 z := by
      obtain ⟨l', ys', e1, e2, _, _, hl', _⟩ := (tb0.line _ hxm).ex
      cases e1
      have e3 := b02 _ _ (hl' a rfl) e2
      rw [el2] at e3
      cases e3
      obtain ⟨i, rfl⟩ := hint _ _ hxm e2 z hzm
      exact .int
    have tl := fun x (h : x ∈ ts) => (tb2.line x h).th
    have hf0 : 0 ≤ y1 % (ts.length : Int) := Int.emod_nonneg _ (by omega)
    have hf1 : y1 % (ts.length : Int) < ts.length := Int.emod_lt_of_pos _ (by omega)
    have hg0 : 0 ≤ y2 % (ts.length : Int) := Int.emod_nonneg _ (by omega)
    have hg1 : y2 % (ts.length : Int) < ts.length := Int.emod_lt_of_pos _ (by omega)
    clear tb1 et1 b01 b2 a1 hms1 tb0 hint
    have c1 := cutV_length ys none (some (-1))
    have c2 := cutV_length ys (some (-1)) none
    have c3 := cutV_length ys (some 1) none
    tb_start
    intro w1 nw1
    have nlw1 : w1 ≠ a := fun z => by rw [z, a2] at nw1; cases nw1
    generalize hX : (upd _ w1 _) = Hw1
    have sw : Same H2 Hw1 := by rw [← hX]; exact same_new nw1
    have xw1 : Hw1 w1 = some (.lst (cutV ys none (some (-1)))) := by rw [← hX]; exact upd_same
    replace a2 := sw _ _ a2
    replace b02 := but_step' sw b02
    replace tb2 := tb2.same sw
    replace et2 := sw _ _ et2
    replace el2 := sw _ _ el2
    replace vz := vz.same sw
    replace oz := oz.same sw
    clear hX nw1 sw
    have tw1 : Th (Bar1 a) Hw1 (.ref w1) := .lst xw1 (Bar1.ne nlw1) (by omega) (vz.sub fun _ h => mem_cut h)
    clear xw1
    tb_start
    intro w2 nw2
    have nlw2 : w2 ≠ a := fun z => by rw [z, a2] at nw2; cases nw2
    generalize hX : (upd _ w2 _) = Hw2
    have sw : Same Hw1 Hw2 := by rw [← hX]; exact same_new nw2
    have xw2 : Hw2 w2 = some (.lst (cutV ys (some (-1)) none)) := by rw [← hX]; exact upd_same
    replace a2 := sw _ _ a2
    replace b02 := but_step' sw b02
    replace tb2 := tb2.same sw
    replace et2 := sw _ _ et2
    replace el2 := sw _ _ el2
    replace vz := vz.same sw
    replace oz := oz.same sw
    replace tw1 := tw1.same sw
    clear hX nw2 sw
    tb_start
    intro w3 nw3
    have nlw3 : w3 ≠ a := fun z => by rw [z, a2] at nw3; cases nw3
    generalize hX : (upd _ w3 _) = Hw3
    have sw : Same Hw2 Hw3 := by rw [← hX]; exact same_new nw3
    have xw3 : Hw3 w3 = some (.lst (ys ++ cutV ys (some (-1)) none)) := by rw [← hX]; exact upd_same
    replace a2 := sw _ _ a2
    replace b02 := but_step' sw b02
    replace tb2 := tb2.same sw
    replace et2 := sw _ _ et2
    replace el2 := sw _ _ el2
    replace vz := vz.same sw
    replace oz := oz.same sw
    replace tw1 := tw1.same sw
    replace xw2 := sw _ _ xw2
    clear hX nw3 sw
    have tw3 : Th (Bar1 a) Hw3 (.ref w3) := .lst xw3 (Bar1.ne nlw3) (by rw [List.length_append]; omega) (vz.app (vz.sub fun _ h => mem_cut h))
    clear xw3
    clear xw2
    tb_start
    intro w4 nw4
    have nlw4 : w4 ≠ a := fun z => by rw [z, a2] at nw4; cases nw4
    generalize hX : (upd _ w4 _) = Hw4
    have sw : Same Hw3 Hw4 := by rw [← hX]; exact same_new nw4
    have xw4 : Hw4 w4 = some (.lst (cutV ys (some 1) none)) := by rw [← hX]; exact upd_same
    replace a2 := sw _ _ a2
    replace b02 := but_step' sw b02
    replace tb2 := tb2.same sw
    replace et2 := sw _ _ et2
    replace el2 := sw _ _ el2
    replace vz := vz.same sw
    replace oz := oz.same sw
    replace tw1 := tw1.same sw
    replace tw3 := tw3.same sw
    clear hX nw4 sw
    have tw4 : Th (Bar1 a) Hw4 (.ref w4) := .lst xw4 (Bar1.ne nlw4) (by omega) (vz.sub fun _ h => mem_cut h)
    clear xw4
    tb_start
    intro w5 nw5
    have nlw5 : w5 ≠ a := fun z => by rw [z, a2] at nw5; cases nw5
    generalize hX : (upd _ w5 _) = Hw5
    have sw : Same Hw4 Hw5 := by rw [← hX]; exact same_new nw5
    have xw5 : Hw5 w5 = some (.lst ([V.int 0])) := by rw [← hX]; exact upd_same
    replace a2 := sw _ _ a2
    replace b02 := but_step' sw b02
    replace tb2 := tb2.same sw
    replace et2 := sw _ _ et2
    replace el2 := sw _ _ el2
    replace vz := vz.same sw
    replace oz := oz.same sw
    replace tw1 := tw1.same sw
    replace tw3 := tw3.same sw
    replace tw4 := tw4.same sw
    clear hX nw5 sw
    tb_start
    intro w6 nw6
    have nlw6 : w6 ≠ a := fun z => by rw [z, a2] at nw6; cases nw6
    generalize hX : (upd _ w6 _) = Hw6
    have sw : Same Hw5 Hw6 := by rw [← hX]; exact same_new nw6
    have xw6 : Hw6 w6 = some (.lst ([V.int 0] ++ ys)) := by rw [← hX]; exact upd_same
    replace a2 := sw _ _ a2
    replace b02 := but_step' sw b02
    replace tb2 := tb2.same sw
    replace et2 := sw _ _ et2
    replace el2 := sw _ _ el2
    replace vz := vz.same sw
    replace oz := oz.same sw
    replace tw1 := tw1.same sw
    replace tw3 := tw3.same sw
    replace tw4 := tw4.same sw
    replace xw5 := sw _ _ xw5
    clear hX nw6 sw
    have tw6 : Th (Bar1 a) Hw6 (.ref w6) := .lst xw6 (Bar1.ne nlw6) (by rw [List.length_append]; show 1 + ys.length ≤ 2000; omega) ((Its.one .int (fun _ _ => V.noConfusion)).app vz)
    clear xw6
    clear xw5
    tb_start
    refine Or.inl ⟨SqL.of (xs := ys) el2, ?_⟩
    intro w7 nw7
    have nlw7 : w7 ≠ a := fun z => by rw [z, a2] at nw7; cases nw7
    generalize hX : (upd _ w7 _) = Hw7
    have sw : Same Hw6 Hw7 := by rw [← hX]; exact same_new nw7
    have xw7 : Hw7 w7 = some (.tup (ys)) := by rw [← hX]; exact upd_same
    replace a2 := sw _ _ a2
    replace b02 := but_step' sw b02
    replace tb2 := tb2.same sw
    replace et2 := sw _ _ et2
    replace el2 := sw _ _ el2
    replace vz := vz.same sw
    replace oz := oz.same sw
    replace tw1 := tw1.same sw
    replace tw3 := tw3.same sw
    replace tw4 := tw4.same sw
    replace tw6 := tw6.same sw
    clear hX nw7 sw
    have tw7 : Th (Bar1 a) Hw7 (.ref w7) := .tup xw7 (Bar1.ne nlw7)
    clear xw7
    tb_start
    intro w8 nw8
    have nlw8 : w8 ≠ a := fun z => by rw [z, a2] at nw8; cases nw8
    generalize hX : (upd _ w8 _) = Hw8
    have sw : Same Hw7 Hw8 := by rw [← hX]; exact same_new nw8
    have xw8 : Hw8 w8 = some (.lst ([])) := by rw [← hX]; exact upd_same
    replace a2 := sw _ _ a2
    replace b02 := but_step' sw b02
    replace tb2 := tb2.same sw
    replace et2 := sw _ _ et2
    replace el2 := sw _ _ el2
    replace vz := vz.same sw
    replace oz := oz.same sw
    replace tw1 := tw1.same sw
    replace tw3 := tw3.same sw
    replace tw4 := tw4.same sw
    replace tw6 := tw6.same sw
    replace tw7 := tw7.same sw
    clear hX nw8 sw
    have tw8 : Th (Bar1 a) Hw8 (.ref w8) := .lst xw8 (Bar1.ne nlw8) (by simp) .nil
    clear xw8
    tb_start
    intro w9 nw9
    have nlw9 : w9 ≠ a := fun z => by rw [z, a2] at nw9; cases nw9
    generalize hX : (upd _ w9 _) = Hw9
    have sw : Same Hw8 Hw9 := by rw [← hX]; exact same_new nw9
    have xw9 : Hw9 w9 = some (.dK ([])) := by rw [← hX]; exact upd_same
    replace a2 := sw _ _ a2
    replace b02 := but_step' sw b02
    replace tb2 := tb2.same sw
    replace et2 := sw _ _ et2
    replace el2 := sw _ _ el2
    replace vz := vz.same sw
    replace oz := oz.same sw
    replace tw1 := tw1.same sw
    replace tw3 := tw3.same sw
    replace tw4 := tw4.same sw
    replace tw6 := tw6.same sw
    replace tw7 := tw7.same sw
    replace tw8 := tw8.same sw
    clear hX nw9 sw
    have tw9 : Th (Bar1 a) Hw9 (.ref w9) := .dct xw9 (Bar1.ne nlw9)
    clear xw9
    tb_start
    intro s ns
    have nls : s ≠ a := fun z => by rw [z, a2] at ns; cases ns
    generalize hX : (upd _ s _) = Hs
    have sw : Same Hw9 Hs := by rw [← hX]; exact same_new ns
    have xs : Hs s = some (.lst ([V.ref w1, V.ref w3, V.ref w4, V.ref w6, V.ref w7, V.non, V.ref w8, V.str (Str.ofString "0"), V.ref w9, z])) := by rw [← hX]; exact upd_same
    replace a2 := sw _ _ a2
    replace b02 := but_step' sw b02
    replace tb2 := tb2.same sw
    replace et2 := sw _ _ et2
    replace el2 := sw _ _ el2
    replace vz := vz.same sw
    replace oz := oz.same sw
    replace tw1 := tw1.same sw
    replace tw3 := tw3.same sw
    replace tw4 := tw4.same sw
    replace tw6 := tw6.same sw
    replace tw7 := tw7.same sw
    replace tw8 := tw8.same sw
    replace tw9 := tw9.same sw
    clear hX ns sw
    have vs : ∀ x ∈ [V.ref w1, V.ref w3, V.ref w4, V.ref w6, V.ref w7, V.non, V.ref w8, V.str (Str.ofString "0"), V.ref w9, z], Th (Bar1 a) Hs x := fa_cons tw1 (fa_cons tw3 (fa_cons tw4 (fa_cons tw6 (fa_cons tw7 (fa_cons .non (fa_cons tw8 (fa_cons .str (fa_cons tw9 (fa_cons oz fa_nil)))))))))
    have ks : ([V.ref w1, V.ref w3, V.ref w4, V.ref w6, V.ref w7, V.non, V.ref w8, V.str (Str.ofString "0"), V.ref w9, z] : List V).length = 10 := rfl
    generalize [V.ref w1, V.ref w3, V.ref w4, V.ref w6, V.ref w7, V.non, V.ref w8, V.str (Str.ofString "0"), V.ref w9, z] = zs at xs vs ks
    clear tw1 tw3 tw4 tw6 tw7 tw8 tw9 oz c1 c2 c3
    tb_start
    refine ⟨fun σ H' => Iv (∃ (kd : Int) (ms : List Int) (u7 : Option V), σ = [some (.ref a), some (.ref t), some (.int (y1 % (ts.length : Int))), some (.int (y2 % (ts.length : Int))), some (.ref l), some (.ref s), some (.int kd), u7] ∧ 0 ≤ kd ∧ kd < 16 ∧ H' a = some (.lst (ms.map V.int)) ∧ (∀ x ∈ ms, 0 ≤ x) ∧ But a Hs H'), ?_, ?_⟩
    · tb_start
      intro y3 ms3 H3 hy3 hms3 a3 b3
      tb_start
      exact ⟨_, ms3, _, rfl, by omega, by omega, a3, hms3, b3⟩
    rintro σ H7 ⟨kd, ms7, u7, rfl, hd0, hd1, a7, hms7, b7⟩
    have b07 := but_step b7 b02
    have tb7 := tb2.but Bar1.self b7
    have et7 := b7 _ _ (tb2.ne a rfl) et2
    have el7 := b7 _ _ (hla a rfl) el2
    have x7 := b7 _ _ nls xs
    have v7 := fun x hx => (vs x hx).but Bar1.self b7
    have tl7 := fun x (h : x ∈ ts) => (tb7.line x h).th
    have ll7 := tl7 _ hxm
    have fin : ∀ (p : Addr) (zs : List V) (H8 H9 : Hp), H9 = upd H8 p (.lst zs) → H8 p = none → Same H7 H8 → zs.length ≤ 1000 → (∀ x ∈ zs, Th (Bar1 a) H8 x) → Q (.ref p) H9 := by
      intro p zs H8 H9 e n s hl f
      subst e
      have s9 : Same H8 (upd H8 p (.lst zs)) := same_new n
      have n7 := s.free n
      exact q _ ms7 _ (OD.lst' upd_same (Bar1.ne fun z => by rw [z, a7] at n7; cases n7) hl fun x h => (f x h).same s9) (s9 _ _ (s _ _ a7)) hms7 (but_step' (s.trans s9) b07)
    have c1 := cutV_length ts none (some (y1 % (ts.length : Int)))
    have c2 := cutV_length ts (some (y1 % (ts.length : Int) + 1)) none
    have c3 := cutV_length ts (some (y1 % (ts.length : Int))) none
    have c4 := cutV_length ts none (some (-1))
    have c5 := cutV_length ts (some 1) none
    have cm : ∀ lo hi, ∀ x ∈ cutV ts lo hi, Th (Bar1 a) H7 x := fun lo hi x h => tl7 x (mem_cut h)
    clear b7 tb2 et2 el2 xs vs a2 vz
    by_cases h0 : kd < 10
    · obtain ⟨v, hv, hvm, _⟩ := atI_get (xs := zs) (i := kd) (by omega) (by omega)
      have tv := v7 v hvm
      tb_start
      intro p1 n1
      have s1 : Same H7 (upd H7 p1 (.lst (cutV ts none (some (y1 % (ts.length : Int)))))) := same_new n1
      have g1 : (upd H7 p1 (.lst (cutV ts none (some (y1 % (ts.length : Int)))))) p1 = some (.lst (cutV ts none (some (y1 % (ts.length : Int))))) := upd_same
      have et8 := s1 _ _ et7
      have x8 := s1 _ _ x7
      clear n1
      generalize (upd H7 p1 (.lst (cutV ts none (some (y1 % (ts.length : Int)))))) = H8 at *
      tb_start
      intro p2 n2
      have s2 : Same H8 (upd H8 p2 (.lst [v])) := same_new n2
      have g2 : (upd H8 p2 (.lst [v])) p2 = some (.lst [v]) := upd_same
      have et9 := s2 _ _ et8
      have g12 := s2 _ _ g1
      clear n2
      generalize (upd H8 p2 (.lst [v])) = H9 at *
      tb_start
      intro p3 n3
      have s3 : Same H9 (upd H9 p3 (.lst (cutV ts none (some (y1 % (ts.length : Int))) ++ [v]))) := same_new n3
      have g3 : (upd H9 p3 (.lst (cutV ts none (some (y1 % (ts.length : Int))) ++ [v]))) p3 = some (.lst (cutV ts none (some (y1 % (ts.length : Int))) ++ [v])) := upd_same
      have et10 := s3 _ _ et9
      have lg : (cutV ts none (some (y1 % (ts.length : Int))) ++ [v]).length ≤ 401 := by rw [List.length_append]; show _ + 1 ≤ _; omega
      clear n3
      generalize (upd H9 p3 (.lst (cutV ts none (some (y1 % (ts.length : Int))) ++ [v]))) = H10 at *
      tb_start
      intro p4 n4
      have s4 : Same H10 (upd H10 p4 (.lst (cutV ts (some (y1 % (ts.length : Int) + 1)) none))) := same_new n4
      have g4 : (upd H10 p4 (.lst (cutV ts (some (y1 % (ts.length : Int) + 1)) none))) p4 = some (.lst (cutV ts (some (y1 % (ts.length : Int) + 1)) none)) := upd_same
      have g34 := s4 _ _ g3
      clear n4
      generalize (upd H10 p4 (.lst (cutV ts (some (y1 % (ts.length : Int) + 1)) none))) = H11 at *
      tb_start
      intro p5 n5
      tb_start
      have st := s1.trans (s2.trans (s3.trans s4))
      exact fin p5 _ _ _ rfl n5 st (by rw [List.length_append]; omega) fun x h => (fa_app (fa_app (cm _ _) (fa_cons tv fa_nil)) (cm _ _) x h).same st
    by_cases h1 : kd = 10
    · subst h1
      have st : Same H7 H7 := Same.refl _
      tb_start
      intro p1 np1
      have sp1 : Same H7 (upd H7 p1 (.lst (cutV ts none (some (y1 % (ts.length : Int)))))) := same_new np1
      have gp1 : (upd H7 p1 (.lst (cutV ts none (some (y1 % (ts.length : Int)))))) p1 = some (.lst (cutV ts none (some (y1 % (ts.length : Int))))) := upd_same
      replace et7 := sp1 _ _ et7
      replace el7 := sp1 _ _ el7
      replace st := st.trans sp1
      clear np1
      generalize (upd H7 p1 (.lst (cutV ts none (some (y1 % (ts.length : Int)))))) = Gp1 at *
      clear sp1
      tb_start
      intro p2 np2
      have sp2 : Same Gp1 (upd Gp1 p2 (.lst (cutV ts (some (y1 % (ts.length : Int) + 1)) none))) := same_new np2
      have gp2 : (upd Gp1 p2 (.lst (cutV ts (some (y1 % (ts.length : Int) + 1)) none))) p2 = some (.lst (cutV ts (some (y1 % (ts.length : Int) + 1)) none)) := upd_same
      replace et7 := sp2 _ _ et7
      replace el7 := sp2 _ _ el7
      replace gp1 := sp2 _ _ gp1
      replace st := st.trans sp2
      clear np2
      generalize (upd Gp1 p2 (.lst (cutV ts (some (y1 % (ts.length : Int) + 1)) none))) = Gp2 at *
      clear sp2
      tb_start
      intro p3 np3
      tb_start
      exact fin p3 _ _ _ rfl np3 st (by rw [List.length_append]; omega) fun x h => (fa_app (cm _ _) (cm _ _) x h).same st
    by_cases h2 : kd = 11
    · subst h2
      have st : Same H7 H7 := Same.refl _
      have lg : (cutV ts none (some (y1 % (ts.length : Int))) ++ [V.ref l]).length ≤ 401 := by rw [List.length_append]; show _ + 1 ≤ _; omega
      tb_start
      intro p1 np1
      have sp1 : Same H7 (upd H7 p1 (.lst (cutV ts none (some (y1 % (ts.length : Int)))))) := same_new np1
      have gp1 : (upd H7 p1 (.lst (cutV ts none (some (y1 % (ts.length : Int)))))) p1 = some (.lst (cutV ts none (some (y1 % (ts.length : Int))))) := upd_same
      replace et7 := sp1 _ _ et7
      replace el7 := sp1 _ _ el7
      replace st := st.trans sp1
      clear np1
      generalize (upd H7 p1 (.lst (cutV ts none (some (y1 % (ts.length : Int)))))) = Gp1 at *
      clear sp1
      tb_start
      intro p2 np2
      have sp2 : Same Gp1 (upd Gp1 p2 (.lst ([V.ref l]))) := same_new np2
      have gp2 : (upd Gp1 p2 (.lst ([V.ref l]))) p2 = some (.lst ([V.ref l])) := upd_same
      replace et7 := sp2 _ _ et7
      replace el7 := sp2 _ _ el7
      replace gp1 := sp2 _ _ gp1
      replace st := st.trans sp2
      clear np2
      generalize (upd Gp1 p2 (.lst ([V.ref l]))) = Gp2 at *
      clear sp2
      tb_start
      intro p3 np3
      have sp3 : Same Gp2 (upd Gp2 p3 (.lst (cutV ts none (some (y1 % (ts.length : Int))) ++ [V.ref l]))) := same_new np3
      have gp3 : (upd Gp2 p3 (.lst (cutV ts none (some (y1 % (ts.length : Int))) ++ [V.ref l]))) p3 = some (.lst (cutV ts none (some (y1 % (ts.length : Int))) ++ [V.ref l])) := upd_same
      replace et7 := sp3 _ _ et7
      replace el7 := sp3 _ _ el7
      replace gp1 := sp3 _ _ gp1
      replace gp2 := sp3 _ _ gp2
      replace st := st.trans sp3
      clear np3
      generalize (upd Gp2 p3 (.lst (cutV ts none (some (y1 % (ts.length : Int))) ++ [V.ref l]))) = Gp3 at *
      clear sp3
      tb_start
      intro p4 np4
      have sp4 : Same Gp3 (upd Gp3 p4 (.lst (cutV ts (some (y1 % (ts.length : Int))) none))) := same_new np4
      have gp4 : (upd Gp3 p4 (.lst (cutV ts (some (y1 % (ts.length : Int))) none))) p4 = some (.lst (cutV ts (some (y1 % (ts.length : Int))) none)) := upd_same
      replace et7 := sp4 _ _ et7
      replace el7 := sp4 _ _ el7
      replace gp1 := sp4 _ _ gp1
      replace gp2 := sp4 _ _ gp2
      replace gp3 := sp4 _ _ gp3
      replace st := st.trans sp4
      clear np4
      generalize (upd Gp3 p4 (.lst (cutV ts (some (y1 % (ts.length : Int))) none))) = Gp4 at *
      clear sp4
      tb_start
      intro p5 np5
      tb_start
      exact fin p5 _ _ _ rfl np5 st (by rw [List.length_append]; omega) fun x h => (fa_app (fa_app (cm _ _) (fa_cons ll7 fa_nil)) (cm _ _) x h).same st
    by_cases h3 : kd = 12
    · subst h3
      obtain ⟨w, hw, hwm, _⟩ := atI_get (xs := ts) (i := y2 % (ts.length : Int)) hg0 hg1
      tb_start
      intro p1 n1
      have s1 : Same H7 (upd H7 p1 (.lst ts)) := same_new n1
      have g1 : (upd H7 p1 (.lst ts)) p1 = some (.lst ts) := upd_same
      have et8 := s1 _ _ et7
      have d1 : t ≠ p1 := fun z => by rw [← z, et7] at n1; cases n1
      have i1 : ixN ts.length (y1 % (ts.length : Int)) = some (y1 % (ts.length : Int)).toNat := ixN_of hf0 hf1
      have i2 : ixN (ts.set (y1 % (ts.length : Int)).toNat w).length (y2 % (ts.length : Int)) = some (y2 % (ts.length : Int)).toNat := by rw [List.length_set]; exact ixN_of hg0 hg1
      tb_start
      rw [upd_upd, upd_upd]
      refine fin p1 _ _ _ rfl n1 (Same.refl _) (by rw [List.length_set, List.length_set]; omega) fun x hx => ?_
      rcases List.mem_or_eq_of_mem_set hx with hx | rfl
      · rcases List.mem_or_eq_of_mem_set hx with hx | rfl
        · exact tl7 x hx
        · exact tl7 _ hwm
      · exact ll7
    by_cases h4 : kd = 13
    · subst h4
      tb_start
      refine Or.inl ⟨SqL.of (xs := ts) et7, ?_⟩
      intro p1 n1
      tb_start
      have s9 : Same H7 (upd H7 p1 (.tup ts)) := same_new n1
      exact q _ ms7 _ (OD.tup upd_same (Bar1.ne fun z => by rw [z, a7] at n1; cases n1)) (s9 _ _ a7) hms7 (but_step' s9 b07)
    have h5 : kd = 14 ∨ kd = 15 := by omega
    clear fin cm
    rcases h5 with rfl | rfl
    · skip
      tb_start
      intro p1 np1
      have hp1 : p1 ≠ a := fun z => by rw [z, a7] at np1; cases np1
      generalize hX : (upd _ p1 _) = Gp1
      have sw : Same H7 Gp1 := by rw [← hX]; exact same_new np1
      have gp1 : Gp1 p1 = some (.lst (cutV ts (some 1) none)) := by rw [← hX]; exact upd_same
      replace a7 := sw _ _ a7
      replace b07 := but_step' sw b07
      replace et7 := sw _ _ et7
      replace tl7 := fun x h => (tl7 x h).same sw
      clear hX np1 sw
      have o1 : OD (Bar1 a) Gp1 (.ref p1) := OD.lst' gp1 (Bar1.ne hp1) (by omega) fun x h => tl7 x (mem_cut h)
      tb_start
      intro p2 np2
      have hp2 : p2 ≠ a := fun z => by rw [z, a7] at np2; cases np2
      generalize hX : (upd _ p2 _) = Gp2
      have sw : Same Gp1 Gp2 := by rw [← hX]; exact same_new np2
      have gp2 : Gp2 p2 = some (.lst (cutV ts none (some (-1)))) := by rw [← hX]; exact upd_same
      replace a7 := sw _ _ a7
      replace b07 := but_step' sw b07
      replace et7 := sw _ _ et7
      replace tl7 := fun x h => (tl7 x h).same sw
      replace gp1 := sw _ _ gp1
      replace o1 := o1.same sw
      clear hX np2 sw
      have o2 : OD (Bar1 a) Gp2 (.ref p2) := OD.lst' gp2 (Bar1.ne hp2) (by omega) fun x h => tl7 x (mem_cut h)
      tb_start
      intro p3 np3
      have hp3 : p3 ≠ a := fun z => by rw [z, a7] at np3; cases np3
      generalize hX : (upd _ p3 _) = Gp3
      have sw : Same Gp2 Gp3 := by rw [← hX]; exact same_new np3
      have gp3 : Gp3 p3 = some (.lst ([V.ref p1, V.ref p2])) := by rw [← hX]; exact upd_same
      replace a7 := sw _ _ a7
      replace b07 := but_step' sw b07
      replace et7 := sw _ _ et7
      replace tl7 := fun x h => (tl7 x h).same sw
      replace gp1 := sw _ _ gp1
      replace o1 := o1.same sw
      replace gp2 := sw _ _ gp2
      replace o2 := o2.same sw
      clear hX np3 sw
      have j1 : atI [V.ref p1, V.ref p2] ((14 : Int) - 14) = some (.ref p1) := rfl
      tb_start
      intro p4 np4
      have hp4 : p4 ≠ a := fun z => by rw [z, a7] at np4; cases np4
      generalize hX : (upd _ p4 _) = Gp4
      have sw : Same Gp3 Gp4 := by rw [← hX]; exact same_new np4
      have gp4 : Gp4 p4 = some (.lst ([V.int 0])) := by rw [← hX]; exact upd_same
      replace a7 := sw _ _ a7
      replace b07 := but_step' sw b07
      replace et7 := sw _ _ et7
      replace tl7 := fun x h => (tl7 x h).same sw
      replace gp1 := sw _ _ gp1
      replace o1 := o1.same sw
      replace gp2 := sw _ _ gp2
      replace o2 := o2.same sw
      replace gp3 := sw _ _ gp3
      clear hX np4 sw
      have o4 : Th (Bar1 a) Gp4 (.ref p4) := .lst gp4 (Bar1.ne hp4) (by simp) (.one .int fun _ _ => V.noConfusion)
      tb_start
      intro p5 np5
      have hp5 : p5 ≠ a := fun z => by rw [z, a7] at np5; cases np5
      generalize hX : (upd _ p5 _) = Gp5
      have sw : Same Gp4 Gp5 := by rw [← hX]; exact same_new np5
      have gp5 : Gp5 p5 = some (.lst ([V.ref p4])) := by rw [← hX]; exact upd_same
      replace a7 := sw _ _ a7
      replace b07 := but_step' sw b07
      replace et7 := sw _ _ et7
      replace tl7 := fun x h => (tl7 x h).same sw
      replace gp1 := sw _ _ gp1
      replace o1 := o1.same sw
      replace gp2 := sw _ _ gp2
      replace o2 := o2.same sw
      replace gp3 := sw _ _ gp3
      replace gp4 := sw _ _ gp4
      replace o4 := o4.same sw
      clear hX np5 sw
      tb_start
      intro p6 np6
      have hp6 : p6 ≠ a := fun z => by rw [z, a7] at np6; cases np6
      generalize hX : (upd _ p6 _) = Gp6
      have sw : Same Gp5 Gp6 := by rw [← hX]; exact same_new np6
      have gp6 : Gp6 p6 = some (.lst (ts ++ [V.ref p4])) := by rw [← hX]; exact upd_same
      replace a7 := sw _ _ a7
      replace b07 := but_step' sw b07
      replace et7 := sw _ _ et7
      replace tl7 := fun x h => (tl7 x h).same sw
      replace gp1 := sw _ _ gp1
      replace o1 := o1.same sw
      replace gp2 := sw _ _ gp2
      replace o2 := o2.same sw
      replace gp3 := sw _ _ gp3
      replace gp4 := sw _ _ gp4
      replace o4 := o4.same sw
      replace gp5 := sw _ _ gp5
      clear hX np6 sw
      have o6 : OD (Bar1 a) Gp6 (.ref p6) := OD.lst' gp6 (Bar1.ne hp6) (by rw [List.length_append]; show _ + 1 ≤ _; omega) (fa_app tl7 (fa_cons o4 fa_nil))
      tb_start
      intro p7 np7
      have hp7 : p7 ≠ a := fun z => by rw [z, a7] at np7; cases np7
      generalize hX : (upd _ p7 _) = Gp7
      have sw : Same Gp6 Gp7 := by rw [← hX]; exact same_new np7
      have gp7 : Gp7 p7 = some (.lst ([V.ref p1, V.ref p6])) := by rw [← hX]; exact upd_same
      replace a7 := sw _ _ a7
      replace b07 := but_step' sw b07
      replace et7 := sw _ _ et7
      replace tl7 := fun x h => (tl7 x h).same sw
      replace gp1 := sw _ _ gp1
      replace o1 := o1.same sw
      replace gp2 := sw _ _ gp2
      replace o2 := o2.same sw
      replace gp3 := sw _ _ gp3
      replace gp4 := sw _ _ gp4
      replace o4 := o4.same sw
      replace gp5 := sw _ _ gp5
      replace o6 := o6.same sw
      clear hX np7 sw
      tb_start
      intro y3 ms8 H8 hy3 hms8 a8 b8
      have g8 := b8 _ _ hp7 gp7
      have hj : y3 % 2 = 0 ∨ y3 % 2 = 1 := by omega
      obtain ⟨w, hw, ow⟩ : ∃ w, atI [V.ref p1, V.ref p6] (y3 % 2) = some w ∧ OD (Bar1 a) H8 w := by
        rcases hj with h | h
        · rw [h]; exact ⟨_, rfl, o1.but Bar1.self b8⟩
        · rw [h]; exact ⟨_, rfl, o6.but Bar1.self b8⟩
      tb_start
      exact q _ ms8 _ ow a8 hms8 (but_step b8 b07)
    · skip
      tb_start
      intro p1 np1
      have hp1 : p1 ≠ a := fun z => by rw [z, a7] at np1; cases np1
      generalize hX : (upd _ p1 _) = Gp1
      have sw : Same H7 Gp1 := by rw [← hX]; exact same_new np1
      have gp1 : Gp1 p1 = some (.lst (cutV ts (some 1) none)) := by rw [← hX]; exact upd_same
      replace a7 := sw _ _ a7
      replace b07 := but_step' sw b07
      replace et7 := sw _ _ et7
      replace tl7 := fun x h => (tl7 x h).same sw
      clear hX np1 sw
      have o1 : OD (Bar1 a) Gp1 (.ref p1) := OD.lst' gp1 (Bar1.ne hp1) (by omega) fun x h => tl7 x (mem_cut h)
      tb_start
      intro p2 np2
      have hp2 : p2 ≠ a := fun z => by rw [z, a7] at np2; cases np2
      generalize hX : (upd _ p2 _) = Gp2
      have sw : Same Gp1 Gp2 := by rw [← hX]; exact same_new np2
      have gp2 : Gp2 p2 = some (.lst (cutV ts none (some (-1)))) := by rw [← hX]; exact upd_same
      replace a7 := sw _ _ a7
      replace b07 := but_step' sw b07
      replace et7 := sw _ _ et7
      replace tl7 := fun x h => (tl7 x h).same sw
      replace gp1 := sw _ _ gp1
      replace o1 := o1.same sw
      clear hX np2 sw
      have o2 : OD (Bar1 a) Gp2 (.ref p2) := OD.lst' gp2 (Bar1.ne hp2) (by omega) fun x h => tl7 x (mem_cut h)
      tb_start
      intro p3 np3
      have hp3 : p3 ≠ a := fun z => by rw [z, a7] at np3; cases np3
      generalize hX : (upd _ p3 _) = Gp3
      have sw : Same Gp2 Gp3 := by rw [← hX]; exact same_new np3
      have gp3 : Gp3 p3 = some (.lst ([V.ref p1, V.ref p2])) := by rw [← hX]; exact upd_same
      replace a7 := sw _ _ a7
      replace b07 := but_step' sw b07
      replace et7 := sw _ _ et7
      replace tl7 := fun x h => (tl7 x h).same sw
      replace gp1 := sw _ _ gp1
      replace o1 := o1.same sw
      replace gp2 := sw _ _ gp2
      replace o2 := o2.same sw
      clear hX np3 sw
      have j1 : atI [V.ref p1, V.ref p2] ((15 : Int) - 14) = some (.ref p2) := rfl
      tb_start
      intro p4 np4
      have hp4 : p4 ≠ a := fun z => by rw [z, a7] at np4; cases np4
      generalize hX : (upd _ p4 _) = Gp4
      have sw : Same Gp3 Gp4 := by rw [← hX]; exact same_new np4
      have gp4 : Gp4 p4 = some (.lst ([V.int 0])) := by rw [← hX]; exact upd_same
      replace a7 := sw _ _ a7
      replace b07 := but_step' sw b07
      replace et7 := sw _ _ et7
      replace tl7 := fun x h => (tl7 x h).same sw
      replace gp1 := sw _ _ gp1
      replace o1 := o1.same sw
      replace gp2 := sw _ _ gp2
      replace o2 := o2.same sw
      replace gp3 := sw _ _ gp3
      clear hX np4 sw
      have o4 : Th (Bar1 a) Gp4 (.ref p4) := .lst gp4 (Bar1.ne hp4) (by simp) (.one .int fun _ _ => V.noConfusion)
      tb_start
      intro p5 np5
      have hp5 : p5 ≠ a := fun z => by rw [z, a7] at np5; cases np5
      generalize hX : (upd _ p5 _) = Gp5
      have sw : Same Gp4 Gp5 := by rw [← hX]; exact same_new np5
      have gp5 : Gp5 p5 = some (.lst ([V.ref p4])) := by rw [← hX]; exact upd_same
      replace a7 := sw _ _ a7
      replace b07 := but_step' sw b07
      replace et7 := sw _ _ et7
      replace tl7 := fun x h => (tl7 x h).same sw
      replace gp1 := sw _ _ gp1
      replace o1 := o1.same sw
      replace gp2 := sw _ _ gp2
      replace o2 := o2.same sw
      replace gp3 := sw _ _ gp3
      replace gp4 := sw _ _ gp4
      replace o4 := o4.same sw
      clear hX np5 sw
      tb_start
      intro p6 np6
      have hp6 : p6 ≠ a := fun z => by rw [z, a7] at np6; cases np6
      generalize hX : (upd _ p6 _) = Gp6
      have sw : Same Gp5 Gp6 := by rw [← hX]; exact same_new np6
      have gp6 : Gp6 p6 = some (.lst (ts ++ [V.ref p4])) := by rw [← hX]; exact upd_same
      replace a7 := sw _ _ a7
      replace b07 := but_step' sw b07
      replace et7 := sw _ _ et7
      replace tl7 := fun x h => (tl7 x h).same sw
      replace gp1 := sw _ _ gp1
      replace o1 := o1.same sw
      replace gp2 := sw _ _ gp2
      replace o2 := o2.same sw
      replace gp3 := sw _ _ gp3
      replace gp4 := sw _ _ gp4
      replace o4 := o4.same sw
      replace gp5 := sw _ _ gp5
      clear hX np6 sw
      have o6 : OD (Bar1 a) Gp6 (.ref p6) := OD.lst' gp6 (Bar1.ne hp6) (by rw [List.length_append]; show _ + 1 ≤ _; omega) (fa_app tl7 (fa_cons o4 fa_nil))
      tb_start
      intro p7 np7
      have hp7 : p7 ≠ a := fun z => by rw [z, a7] at np7; cases np7
      generalize hX : (upd _ p7 _) = Gp7
      have sw : Same Gp6 Gp7 := by rw [← hX]; exact same_new np7
      have gp7 : Gp7 p7 = some (.lst ([V.ref p2, V.ref p6])) := by rw [← hX]; exact upd_same
      replace a7 := sw _ _ a7
      replace b07 := but_step' sw b07
      replace et7 := sw _ _ et7
      replace tl7 := fun x h => (tl7 x h).same sw
      replace gp1 := sw _ _ gp1
      replace o1 := o1.same sw
      replace gp2 := sw _ _ gp2
      replace o2 := o2.same sw
      replace gp3 := sw _ _ gp3
      replace gp4 := sw _ _ gp4
      replace o4 := o4.same sw
      replace gp5 := sw _ _ gp5
      replace o6 := o6.same sw
      clear hX np7 sw
      tb_start
      intro y3 ms8 H8 hy3 hms8 a8 b8
      have g8 := b8 _ _ hp7 gp7
      have hj : y3 % 2 = 0 ∨ y3 % 2 = 1 := by omega
      obtain ⟨w, hw, ow⟩ : ∃ w, atI [V.ref p2, V.ref p6] (y3 % 2) = some w ∧ OD (Bar1 a) H8 w := by
        rcases hj with h | h
        · rw [h]; exact ⟨_, rfl, o2.but Bar1.self b8⟩
        · rw [h]; exact ⟨_, rfl, o6.but Bar1.self b8⟩
      tb_start
      exact q _ ms8 _ ow a8 hms8 (but_step b8 b07)
end
end Ur
namespace Ur
open PySem L2
/-- a cell, mixed: a number from 0 on -/
def sp__law_mixed (K : PySem.W.Frag) : Sp := fun vs H Q _ => ∃ (c k : Int), vs = [.int c, .int k] ∧ 0 ≤ k ∧ k ≤ 1000 ∧ ∀ n : Int, 0 ≤ n → Q (.int n) H
section
variable {P : Program} {w : World} {K : PySem.W.Frag} {mg : Str → Option Value} {base : Heap} {A : Adr}
theorem ok__law_mixed (T : Txt K mg A) : FnOk P w K mg base CX0 1 A.f__law_mixed A.d__law_mixed ["cell", "k"] (sp__law_mixed K) := by
  refine T.F__law_mixed.ok sc__law_mixed (fun vs H Q E h => ?_) (fun cdv Ar outer s H vs Q E hr h => ?_)
  · obtain ⟨c, k, rfl, _⟩ := h
    rfl
  · obtain ⟨c, k, rfl, hk0, hk1, q⟩ := h
    refine ⟨_, (pss_cons (ps_set (i := 2) sc__law_mixed.nd rfl (Or.inl rfl) (pe_op op_mod (pe_op op_add (pe_op op_mod (pv 0) pe_int) (pe_op op_mul pe_int (pe_op op_add (pv 1) pe_int))) pe_int))
    (pss_cons (ps_set (i := 2) sc__law_mixed.nd rfl (Or.inl rfl) (pe_op op_mod (pe_op op_add (pe_op op_add (pe_op op_mul (pv 2) (pv 2)) (pe_op op_mul pe_int (pv 2))) (pv 1)) pe_int))
    (pss_cons (ps_set (i := 2) sc__law_mixed.nd rfl (Or.inl rfl) (pe_op op_mod (pe_op op_mul (pv 2) (pv 2)) pe_int))
    (pss_one (ps_ret (pe_op op_fdiv (pe_op op_mod (pe_op op_mul (pv 2) pe_int) pe_int) pe_int)))))), ?_⟩
    tb_start
    exact q _ (Int.ediv_nonneg (Int.emod_nonneg _ (by omega)) (by omega))
end
end Ur
namespace Ur
open PySem L2
/-- a purse: so many numbers from 0 on -/
def sp__law_purse (K : PySem.W.Frag) : Sp := fun vs H Q _ => ∃ (a : Addr) (ns : List Int) (i s m : Int), vs = [.ref a, .int i, .int s, .int m] ∧ SqL K H a (ns.map V.int) ∧ ns.length ≤ 63 ∧ (0 ≤ i ∧ i ≤ 126) ∧ (1 ≤ s ∧ s ≤ 100) ∧ (0 ≤ m ∧ m ≤ 1000) ∧ ∀ p (ps : List Int) H', H' p = some (.lst (ps.map V.int)) → (∀ x ∈ ps, 0 ≤ x) → ps.length = m.toNat → Same H H' → H p = none → Q (.ref p) H'
section
variable {P : Program} {w : World} {K : PySem.W.Frag} {mg : Str → Option Value} {base : Heap} {A : Adr}
theorem ok__law_purse (T : Txt K mg A) : FnOk P w K mg base CX0 2 A.f__law_purse A.d__law_purse ["script", "at", "step", "many"] (sp__law_purse K) := by
  have G__law_mixed := ok__law_mixed (P := P) (w := w) (base := base) T
  refine T.F__law_purse.ok sc__law_purse (fun vs H Q E h => ?_) (fun cdv Ar outer s H vs Q E hr h => ?_)
  · obtain ⟨a, ns, i, s, m, rfl, _⟩ := h
    rfl
  · obtain ⟨a, ns, i, s, m, rfl, ha, hl, hi, hs, hm, q⟩ := h
    refine ⟨_, (pss_cons (ps_set (i := 4) sc__law_purse.nd rfl (Or.inl rfl) (Ur.pe_step3 (pv 0) (pv 1) pe_int (pv 2)))
    (Evl.pss_cut (ps_if (pt_cmpR (Ur.op_eqDK (K := K) rfl hr.units) (pv 4) (pe_lst pa_nil) (nomark _)) (pss_one (ps_set (i := 4) sc__law_purse.nd rfl (Or.inl rfl) (pe_lst (pa_cons (pv 1) pa_nil)))) pss_nil)
    (pss_cons (ps_setLc (i := 5) (own := [("cell", 9)]) (g := gName 9) (by rfl) sc__law_purse.nd rfl rfl (sw_true rfl rfl rfl (by decide +kernel)) (pi_list (pv 4)) (blkOk_by (own := [("cell", 9)]) (N := ["script", "at", "step", "many", "cells", "rests", "purse", "k", "place", "cell"]) (by kernel_rfl)) (fun _ _ _ _ _ => pg_name (i := 9) sc__law_purse.nd rfl (Or.inl rfl)) (fun _ _ _ _ _ => pts_nil) (fun _ _ _ _ _ => (pe_op op_mul (Ur.pe_b1 call_abs (by rfl) T.m_abs (by decide +kernel) (pv 9)) (Ur.pe_t1 call_int1 (by rfl) T.m_int (by decide +kernel) (pe_cmpR op_ge (Ur.pe_b1 call_abs (by rfl) T.m_abs (by decide +kernel) (pv 9)) (pe_op op_pow pe_int pe_int) (nomark _))))))
    (pss_cons (ps_set (i := 6) sc__law_purse.nd rfl (Or.inl rfl) (pe_lst pa_nil))
    (pss_cons (ps_for PassesOwn.never (by rfl) (pi_range1 (by rfl) T.m_range (pa_cons (pv 3) pa_nil)) (pg_name (i := 7) sc__law_purse.nd rfl (Or.inl rfl)) (pss_cons (ps_set (i := 8) sc__law_purse.nd rfl (Or.inl rfl) (pe_op op_mod (pv 7) (Ur.pe_b1 (Ur.call_lenIK (K := K) rfl) (by rfl) T.m_len (by decide +kernel) (pv 4))))
    (pss_one (ps_if (pt_cmpR op_gt (pe_ix (Ur.ix_listK (K := K) rfl) (pv 5) (pv 8) (fun _ _ => rfl)) pe_int (nomark _)) (pss_cons (ps_expr (pe_bm PySem.F.plainAttrs_list PySem.F.slot_list_append PySem.F.type_list_append mt_append (pv 6) (pa_cons (pe_op op_mod (pe_ix (Ur.ix_listK (K := K) rfl) (pv 5) (pv 8) (fun _ _ => rfl)) pe_int) pa_nil)))
    (pss_one (ps_asg (pe_op op_fdiv (pe_ix (Ur.ix_listK (K := K) rfl) (pv 5) (pv 8) (fun _ _ => rfl)) pe_int) (pg_sub (pv 5) (pv 8) set_list)))) (pss_one (ps_expr (pe_bm PySem.F.plainAttrs_list PySem.F.slot_list_append PySem.F.type_list_append mt_append (pv 6) (pa_cons (pe_call G__law_mixed (hr.mono (by decide)) (by rfl) T.g__law_mixed T.F__law_mixed.kp T.b__law_mixed .nil pass0 (pa_cons (pe_ix (Ur.ix_listK (K := K) rfl) (pv 4) (pv 8) (fun _ _ => rfl)) (pa_cons (pe_op op_fdiv (pv 7) (Ur.pe_b1 (Ur.call_lenIK (K := K) rfl) (by rfl) T.m_len (by decide +kernel) (pv 4))) pa_nil))) pa_nil))))))))
    (pss_one (ps_ret (UrV.pe_listRev (K := K) rfl (by rfl) T.m_list T.m_reversed (pv 6))))))))), ?_⟩
    tb_start
    intro p1 ys hys hyl np1
    obtain ⟨cs, rfl⟩ : ∃ cs : List Int, ys = cs.map V.int := by
      refine ⟨ys.map fun | .int i => i | _ => 0, ?_⟩
      rw [List.map_map]
      refine (List.map_id' ys).symm.trans (List.map_congr_left fun y hy => ?_)
      obtain ⟨x, _, rfl⟩ := List.mem_map.mp (hys y hy)
      rfl
    rw [List.length_map, List.length_map] at hyl
    tb_start
    refine ⟨fun σ H' => Iv (∃ (p : Addr) (cs : List Int) (u5 u6 u7 u8 u9 : Option V), σ = [some (.ref a), some (.int i), some (.int s), some (.int m), some (.ref p), u5, u6, u7, u8, u9] ∧ H' p = some (.lst (cs.map V.int)) ∧ 0 < cs.length ∧ cs.length ≤ 64 ∧ Same H H'), ?_, ?_⟩
    · tb_start
      intro p2 np2
      tb_start
      refine br (fun he => ?_) (fun he => ?_)
      · tb_start
        intro p3 np3
        tb_start
        exact ⟨p3, [i], _, _, _, _, _, rfl, by kct_strs, Nat.zero_lt_one, (by show 1 ≤ 64; omega), by kcj_in⟩
      · exact ⟨p1, cs, _, _, _, _, _, rfl, by kct_strs, List.length_pos_iff.mpr he, by omega, by kcj_in⟩
    rintro σ H2 ⟨p, cs, u5, u6, u7, u8, u9, rfl, ep, hc0, hc1, s2⟩
    tb_start
    intro D nD
    refine lc_list (K := K) (a := p) (xs := cs.map V.int) (fun j H' => Iv (∃ r : List Int, H' D = some (.lst (r.map V.int)) ∧ r.length = j ∧ (∀ x ∈ r, 0 ≤ x) ∧ Same H2 H')) ⟨[], upd_same, rfl, (fun x hx => nomatch hx), same_new nD⟩ (fun j H' _ z => ?_) (fun j x H' hx z => ?_) (fun H' z => ?_)
    · obtain ⟨r, _, _, _, s'⟩ := z.out
      exact .of (s' _ _ ep)
    · obtain ⟨c, hc, rfl⟩ := iv_get hx
      have hj := (List.getElem?_eq_some_iff.mp hc).1
      obtain ⟨r, e, hl, h0, s'⟩ := z.out
      have hb := b01 (decide ((10 : Int) ^ (18 : Int).toNat ≤ (if c < 0 then -c else c)))
      have hab : 0 ≤ (if c < 0 then -c else c) := by split <;> omega
      refine ⟨rfl, tyes_ok ?_⟩
      tb_start
      refine ⟨r ++ [_], upd_snoc, by rw [List.length_append, hl]; rfl, fun x hx => ?_, same_upd' nD s'⟩
      rcases List.mem_append.mp hx with k | k
      · exact h0 x k
      · rw [List.mem_singleton.mp k]
        exact Int.mul_nonneg hab hb.1
    · obtain ⟨rs, e, hrl, h0, s'⟩ := z.out
      rw [List.length_map] at hrl
      have ep' := s' _ _ ep
      tb_start
      intro pl npl
      have hDp : D ≠ p := by kcj_m
      have hDpl : D ≠ pl := by kcj_m
      have hppl : p ≠ pl := by kcj_m
      tb_start
      refine for_range (fun j σ H' => Iv (∃ (u7 u8 u9 : Option V) (ps rs : List Int), σ = [some (.ref a), some (.int i), some (.int s), some (.int m), some (.ref p), some (.ref D), some (.ref pl), u7, u8, u9] ∧ H' pl = some (.lst (ps.map V.int)) ∧ ps.length = j ∧ (∀ x ∈ ps, 0 ≤ x) ∧ H' D = some (.lst (rs.map V.int)) ∧ rs.length = cs.length ∧ (∀ x ∈ rs, 0 ≤ x) ∧ H' p = some (.lst (cs.map V.int)) ∧ Same H H')) ?h0 ?hs ?hd
      case h0 => exact ⟨_, _, _, [], rs, rfl, upd_same, rfl, (fun x hx => nomatch hx), by kct_strs, hrl, h0, by kct_strs, by kcj_in⟩
      case hs =>
        rintro j σ H3 hj ⟨u7, u8, u9, ps, rs, rfl, epl, hpl, hp0, eD, hrl, h0, ep, s3⟩
        have hj2 : j < 1000 := by omega
        have k1 := Int.emod_nonneg ((0 : Int) + (j : Int)) (show (cs.length : Int) ≠ 0 by omega)
        have k2 := Int.emod_lt_of_pos ((0 : Int) + (j : Int)) (show 0 < (cs.length : Int) by omega)
        have k3 : 0 ≤ ((0 : Int) + (j : Int)) / (cs.length : Int) := Int.ediv_nonneg (by omega) (by omega)
        have k4 : ((0 : Int) + (j : Int)) / (cs.length : Int) ≤ 1000 := by
          have := Int.ediv_le_self (a := (0 : Int) + (j : Int)) (cs.length : Int) (by omega)
          omega
        have hgr : 0 ≤ rs.getD (((0 : Int) + (j : Int)) % (cs.length : Int)).toNat 0 := h0 _ (List.mem_of_getElem? (get_of (by omega)))
        tb_start
        refine br (fun hp => ?_) (fun hp => ?_)
        · tb_start
          refine ⟨_, _, _, ps ++ [_], rs.set _ _, rfl, by kct_strs, by rw [List.length_append, hpl]; rfl, fun x hx => ?_, by kct_strs, by rw [List.length_set, hrl], fun x hx => ?_, by kct_strs, by kcj_in⟩
          · rcases List.mem_append.mp hx with k | k
            · exact hp0 x k
            · rw [List.mem_singleton.mp k]; exact Int.emod_nonneg _ (by decide)
          · rcases List.mem_or_eq_of_mem_set hx with k | k
            · exact h0 x k
            · rw [k]; exact Int.ediv_nonneg hgr (by decide)
        · tb_start
          intro n hn
          tb_start
          refine ⟨_, _, _, ps ++ [n], rs, rfl, by kct_strs, by rw [List.length_append, hpl]; rfl, fun x hx => ?_, by kct_strs, hrl, h0, by kct_strs, by kcj_in⟩
          rcases List.mem_append.mp hx with k | k
          · exact hp0 x k
          · rw [List.mem_singleton.mp k]; exact hn
      case hd =>
        rintro σ H3 ⟨u7, u8, u9, ps, rs, rfl, epl, hpl, hp0, eD, hrl, h0, ep, s3⟩
        tb_start
        intro pr npr
        tb_start
        refine q pr ps.reverse _ (lst_cast upd_same (by rw [List.map_reverse])) (fun x hx => hp0 x (List.mem_reverse.mp hx)) (by rw [List.length_reverse, hpl]) (by kcj_in) (by cc_off)
end
end Ur
namespace Ur
open PySem L2
/-- how many numbers a row may have -/
def sp__law_most (K : PySem.W.Frag) : Sp := fun vs H Q _ => ∃ (a : Addr) (ns : List Int) (k : Int), vs = [.ref a, .int k] ∧ SqL K H a (ns.map V.int) ∧ ns.length ≤ 63 ∧ (0 ≤ k ∧ k < 3) ∧ ∀ (v : Int) H', 60 ≤ v → v ≤ 150 → Same H H' → Q (.int v) H'
section
variable {P : Program} {w : World} {K : PySem.W.Frag} {mg : Str → Option Value} {base : Heap} {A : Adr}
theorem ok__law_most (T : Txt K mg A) : FnOk P w K mg base CX0 3 A.f__law_most A.d__law_most ["script", "k"] (sp__law_most K) := by
  have G__law_next := ok__law_next (P := P) (w := w) (base := base) T
  have G__law_purse := ok__law_purse (P := P) (w := w) (base := base) T
  refine T.F__law_most.ok sc__law_most (fun vs H Q E h => ?_) (fun cdv Ar outer s H vs Q E hr h => ?_)
  · obtain ⟨a, ns, k, rfl, _⟩ := h
    rfl
  · obtain ⟨a, ns, k, rfl, ha, hl, hk, q⟩ := h
    refine ⟨_, (pss_one (ps_ret (pe_ix (Ur.ix_listK (K := K) rfl) (pe_lst (pa_cons pe_int (pa_cons (pe_op op_add pe_int (pe_op op_mod (pe_call G__law_next (hr.mono (by decide)) (by rfl) T.g__law_next T.F__law_next.kp T.b__law_next .nil pass0 (pa_cons (pe_call G__law_purse (hr.mono (by decide)) (by rfl) T.g__law_purse T.F__law_purse.kp T.b__law_purse .nil pass0 (pa_cons (pv 0) (pa_cons pe_int (pa_cons pe_int (pa_cons pe_int pa_nil))))) pa_nil)) pe_int)) (pa_cons pe_int pa_nil)))) (pv 1) (fun _ _ => rfl)))), ?_⟩
    tb_start
    intro p1 ps H1 e1 hp1 hl1 s1 n1
    tb_start
    intro x ms H2 hx hms e2 b2
    have s2 : Same H H2 := same_but b2 n1 s1
    have g := getD3 (x := 60) (y := 61 + x % 90) (z := 60) (i := k) (lo := 60) (hi := 150) hk.1 hk.2 (by omega) (by omega) (by omega)
    tb_start
    intro p3 np3
    tb_start
    exact q _ _ g.1 g.2 (by kcj_in)
end
end Ur
namespace Ur
open PySem L2
/-- a table with one thing otherwise: a new one -/
def sp__law_with (K : PySem.W.Frag) : Sp := fun vs H Q _ => ∃ (t l : Addr) (ts xs : List V) (f k : Int) (v : V), vs = [.ref t, .int f, .int k, v] ∧ H t = some (.lst ts) ∧ ts.length ≤ 400 ∧ 0 ≤ f ∧ f < ts.length ∧ atI ts f = some (.ref l) ∧ H l = some (.lst xs) ∧ xs.length ≤ 400 ∧ 0 ≤ k ∧ k < xs.length ∧ ∀ p p2 H', H' p = some (.lst (ts.take f.toNat ++ [.ref p2] ++ ts.drop (f.toNat + 1))) → H' p2 = some (.lst (xs.take k.toNat ++ [v] ++ xs.drop (k.toNat + 1))) → Same H H' → H p = none → H p2 = none → Q (.ref p) H'
section
variable {P : Program} {w : World} {K : PySem.W.Frag} {mg : Str → Option Value} {base : Heap} {A : Adr}
theorem ok__law_with (T : Txt K mg A) : FnOk P w K mg base CX0 1 A.f__law_with A.d__law_with ["table", "first", "at", "thing"] (sp__law_with K) := by
  refine T.F__law_with.ok sc__law_with (fun vs H Q E h => ?_) (fun cdv Ar outer s H vs Q E hr h => ?_)
  · obtain ⟨t, l, ts, xs, f, k, v, rfl, _⟩ := h
    rfl
  · obtain ⟨t, l, ts, xs, f, k, v, rfl, et, htl, hf0, hf1, hat, el, hxl, hk0, hk1, q⟩ := h
    refine ⟨_, (pss_cons (ps_set (i := 4) sc__law_with.nd rfl (Or.inl rfl) (pe_op op_cat (pe_op op_cat (pe_slice (Ur.sl_listK (K := K) rfl) (pe_ix (Ur.ix_listK (K := K) rfl) (pv 0) (pv 1) (fun _ _ => rfl)) po_none (po_some (pv 2))) (pe_lst (pa_cons (pv 3) pa_nil))) (pe_slice (Ur.sl_listK (K := K) rfl) (pe_ix (Ur.ix_listK (K := K) rfl) (pv 0) (pv 1) (fun _ _ => rfl)) (po_some (pe_op op_add (pv 2) pe_int)) po_none)))
    (pss_one (ps_ret (pe_op op_cat (pe_op op_cat (pe_slice (Ur.sl_listK (K := K) rfl) (pv 0) po_none (po_some (pv 1))) (pe_lst (pa_cons (pv 4) pa_nil))) (pe_slice (Ur.sl_listK (K := K) rfl) (pv 0) (po_some (pe_op op_add (pv 1) pe_int)) po_none))))), ?_⟩
    have c1 : cutV xs none (some k) = xs.take k.toNat := cut_to xs hk0
    have c2 : cutV xs (some (k + 1)) none = xs.drop (k.toNat + 1) := by rw [cut_from xs (by omega), show (k + 1).toNat = k.toNat + 1 by omega]
    have c3 : cutV ts none (some f) = ts.take f.toNat := cut_to ts hf0
    have c4 : cutV ts (some (f + 1)) none = ts.drop (f.toNat + 1) := by rw [cut_from ts (by omega), show (f + 1).toNat = f.toNat + 1 by omega]
    have l1 : (xs.take k.toNat).length ≤ 400 := by rw [List.length_take]; omega
    have l2 : (xs.drop (k.toNat + 1)).length ≤ 400 := by rw [List.length_drop]; omega
    have l3 : (ts.take f.toNat).length ≤ 400 := by rw [List.length_take]; omega
    have l4 : (ts.drop (f.toNat + 1)).length ≤ 400 := by rw [List.length_drop]; omega
    tb_start
    intro q1 n1
    rw [c1]
    have s1 : Same H (upd H q1 (.lst (xs.take k.toNat))) := same_new n1
    have x1 : (upd H q1 (.lst (xs.take k.toNat))) q1 = some (.lst (xs.take k.toNat)) := upd_same
    have et1 := s1 _ _ et
    have el1 := s1 _ _ el
    clear n1
    generalize (upd H q1 (.lst (xs.take k.toNat))) = H1 at *
    tb_start
    intro q2 n2
    have s2 : Same H1 (upd H1 q2 (.lst [v])) := same_new n2
    have x2 : (upd H1 q2 (.lst [v])) q2 = some (.lst [v]) := upd_same
    have x12 := s2 _ _ x1
    have et2 := s2 _ _ et1
    have el2 := s2 _ _ el1
    have s02 := s1.trans s2
    clear n2 et1 el1 x1 s1 s2
    generalize (upd H1 q2 (.lst [v])) = H2 at *
    tb_start
    intro q3 n3
    have s3 : Same H2 (upd H2 q3 (.lst (xs.take k.toNat ++ [v]))) := same_new n3
    have x3 : (upd H2 q3 (.lst (xs.take k.toNat ++ [v]))) q3 = some (.lst (xs.take k.toNat ++ [v])) := upd_same
    have et3 := s3 _ _ et2
    have el3 := s3 _ _ el2
    have s03 := s02.trans s3
    have l5 : (xs.take k.toNat ++ [v]).length ≤ 401 := by rw [List.length_append]; exact Nat.add_le_add l1 (Nat.le_refl 1)
    clear n3 et2 el2 x12 x2 s02 s3
    generalize (upd H2 q3 (.lst (xs.take k.toNat ++ [v]))) = H3 at *
    tb_start
    intro q4 n4
    rw [c2]
    have s4 : Same H3 (upd H3 q4 (.lst (xs.drop (k.toNat + 1)))) := same_new n4
    have x4 : (upd H3 q4 (.lst (xs.drop (k.toNat + 1)))) q4 = some (.lst (xs.drop (k.toNat + 1))) := upd_same
    have x34 := s4 _ _ x3
    have et4 := s4 _ _ et3
    have s04 := s03.trans s4
    clear n4 et3 el3 x3 s03 s4
    generalize (upd H3 q4 (.lst (xs.drop (k.toNat + 1)))) = H4 at *
    tb_start
    intro q5 n5
    have s5 : Same H4 (upd H4 q5 (.lst (xs.take k.toNat ++ [v] ++ xs.drop (k.toNat + 1)))) := same_new n5
    have x5 : (upd H4 q5 (.lst (xs.take k.toNat ++ [v] ++ xs.drop (k.toNat + 1)))) q5 = some (.lst (xs.take k.toNat ++ [v] ++ xs.drop (k.toNat + 1))) := upd_same
    have et5 := s5 _ _ et4
    have s05 := s04.trans s5
    have h5 : H q5 = none := s04.free n5
    clear n5 et4 x34 x4 s04 s5
    generalize (upd H4 q5 (.lst (xs.take k.toNat ++ [v] ++ xs.drop (k.toNat + 1)))) = H5 at *
    tb_start
    intro q6 n6
    rw [c3]
    have s6 : Same H5 (upd H5 q6 (.lst (ts.take f.toNat))) := same_new n6
    have x6 : (upd H5 q6 (.lst (ts.take f.toNat))) q6 = some (.lst (ts.take f.toNat)) := upd_same
    have et6 := s6 _ _ et5
    have x56 := s6 _ _ x5
    have s06 := s05.trans s6
    clear n6 et5 x5 s05 s6
    generalize (upd H5 q6 (.lst (ts.take f.toNat))) = H6 at *
    tb_start
    intro q7 n7
    have s7 : Same H6 (upd H6 q7 (.lst [.ref q5])) := same_new n7
    have x7 : (upd H6 q7 (.lst [.ref q5])) q7 = some (.lst [.ref q5]) := upd_same
    have x67 := s7 _ _ x6
    have et7 := s7 _ _ et6
    have x57 := s7 _ _ x56
    have s07 := s06.trans s7
    clear n7 et6 x56 x6 s06 s7
    generalize (upd H6 q7 (.lst [.ref q5])) = H7 at *
    tb_start
    intro q8 n8
    have s8 : Same H7 (upd H7 q8 (.lst (ts.take f.toNat ++ [.ref q5]))) := same_new n8
    have x8 : (upd H7 q8 (.lst (ts.take f.toNat ++ [.ref q5]))) q8 = some (.lst (ts.take f.toNat ++ [.ref q5])) := upd_same
    have et8 := s8 _ _ et7
    have x58 := s8 _ _ x57
    have s08 := s07.trans s8
    have l6 : (ts.take f.toNat ++ [V.ref q5]).length ≤ 401 := by rw [List.length_append]; exact Nat.add_le_add l3 (Nat.le_refl 1)
    clear n8 et7 x57 x67 x7 s07 s8
    generalize (upd H7 q8 (.lst (ts.take f.toNat ++ [.ref q5]))) = H8 at *
    tb_start
    intro q9 n9
    rw [c4]
    have s9 : Same H8 (upd H8 q9 (.lst (ts.drop (f.toNat + 1)))) := same_new n9
    have x9 : (upd H8 q9 (.lst (ts.drop (f.toNat + 1)))) q9 = some (.lst (ts.drop (f.toNat + 1))) := upd_same
    have x89 := s9 _ _ x8
    have x59 := s9 _ _ x58
    have s09 := s08.trans s9
    clear n9 et8 x58 x8 s08 s9
    generalize (upd H8 q9 (.lst (ts.drop (f.toNat + 1)))) = H9 at *
    tb_start
    intro q10 n10
    have s10 : Same H9 (upd H9 q10 (.lst (ts.take f.toNat ++ [.ref q5] ++ ts.drop (f.toNat + 1)))) := same_new n10
    tb_start
    exact q q10 q5 _ upd_same (s10 _ _ x59) (s09.trans s10) (s09.free n10) h5
end
end Ur
namespace Ur
open PySem L2
/-- a table with one thing otherwise -/
def sp__law_one_otherwise (K : PySem.W.Frag) : Sp := fun vs H Q _ => ∃ (L : Addr → Prop) (a t : Addr) (ns : List Int) (B : Nat) (ts : List V), vs = [.ref a, .ref t] ∧ H a = some (.lst (ns.map V.int)) ∧ (∀ x ∈ ns, 0 ≤ x) ∧ Tb L H B t ts ∧ B ≤ 2 * 10 ^ 35 ∧ L a ∧ Old L H ∧ ∀ p xs (ms : List Int) H', Tb L H' (B + 10 ^ 31) p xs → H' a = some (.lst (ms.map V.int)) → (∀ x ∈ ms, 0 ≤ x) → But a H H' → H p = none → Q (.ref p) H'
section
variable {P : Program} {w : World} {K : PySem.W.Frag} {mg : Str → Option Value} {base : Heap} {A : Adr}
theorem ok__law_one_otherwise (T : Txt K mg A) : FnOk P w K mg base CX0 2 A.f__law_one_otherwise A.d__law_one_otherwise ["purse", "table"] (sp__law_one_otherwise K) := by
  have G__law_next := ok__law_next (P := P) (w := w) (base := base) T
  have G__law_with := ok__law_with (P := P) (w := w) (base := base) T
  refine T.F__law_one_otherwise.ok sc__law_one_otherwise (fun vs H Q E h => ?_) (fun cdv Ar outer s H vs Q E hr h => ?_)
  · obtain ⟨L, a, t, ns, B, ts, rfl, _⟩ := h
    rfl
  · obtain ⟨L, a, t, ns, B, ts, rfl, ha, hns, tb, hB, la, old0, q⟩ := h
    have g30 : (10 : Int) ^ (30 : Int).toNat = 1000000000000000000000000000000 := by decide
    refine ⟨_, (pss_cons (ps_set (i := 2) sc__law_one_otherwise.nd rfl (Or.inl rfl) (pe_op op_mod (pe_call G__law_next (hr.mono (by decide)) (by rfl) T.g__law_next T.F__law_next.kp T.b__law_next .nil pass0 (pa_cons (pv 0) pa_nil)) (Ur.pe_b1 (Ur.call_lenIK (K := K) rfl) (by rfl) T.m_len (by decide +kernel) (pv 1))))
    (pss_cons (ps_set (i := 3) sc__law_one_otherwise.nd rfl (Or.inl rfl) (pe_op op_mod (pe_call G__law_next (hr.mono (by decide)) (by rfl) T.g__law_next T.F__law_next.kp T.b__law_next .nil pass0 (pa_cons (pv 0) pa_nil)) (Ur.pe_b1 (Ur.call_lenIK (K := K) rfl) (by rfl) T.m_len (by decide +kernel) (pe_ix (Ur.ix_listK (K := K) rfl) (pv 1) (pv 2) (fun _ _ => rfl)))))
    (pss_cons (ps_set (i := 4) sc__law_one_otherwise.nd rfl (Or.inl rfl) (pe_ix (Ur.ix_listK (K := K) rfl) (pe_ix (Ur.ix_listK (K := K) rfl) (pv 1) (pv 2) (fun _ _ => rfl)) (pv 3) (fun _ _ => rfl)))
    (Evl.pss_cut (ps_if (pt_not (pt_val (Ur.pe_b2 (Ur.call_isiK (K := K) rfl) (by rfl) T.m_isinstance (by decide +kernel) (pv 4) (pe_bltn (v := .ty "int") (by rfl) T.m_int (by decide +kernel) rfl)))) (pss_one (ps_set (i := 4) sc__law_one_otherwise.nd rfl (Or.inl rfl) pe_int)) pss_nil)
    (pss_cons (ps_set (i := 5) sc__law_one_otherwise.nd rfl (Or.inl rfl) (pe_lst (pa_cons (pe_op Ur.op_addJ (pv 4) pe_int) (pa_cons (pe_op Ur.op_subJ (pv 4) pe_int) (pa_cons (pe_op Ur.op_addJ (pv 4) pe_int) (pa_cons pe_int (pa_cons (Ur.pe_b1 (Ur.call_lenIK (K := K) rfl) (by rfl) T.m_len (by decide +kernel) (pv 1)) (pa_cons (pe_un un_neg pe_int) (pa_cons (pe_op op_pow pe_int pe_int) (pa_cons (pe_cmpR Ur.op_eqJ (pv 4) pe_int (nomark _)) (pa_cons (pe_cmpR Ur.op_gtJ (pv 4) pe_int (nomark _)) (pa_cons pe_non pa_nil))))))))))))
    (pss_cons (ps_set (i := 5) sc__law_one_otherwise.nd rfl (Or.inl rfl) (pe_op op_cat (pv 5) (pe_lst (pa_cons (Ur.pe_t1 Ur.call_strJ (by rfl) T.m_str (by decide +kernel) (pv 4)) (pa_cons (pe_lst (pa_cons (pv 4) pa_nil)) (pa_cons (pe_tup (pa_cons (pv 4) pa_nil)) (pa_cons pe_dnewK (pa_cons pe_str (pa_cons pe_bl (pa_cons pe_bl pa_nil))))))))))
    (Evl.pss_cut (ps_set (i := 6) sc__law_one_otherwise.nd rfl (Or.inl rfl) (pe_op op_mod (pe_call G__law_next (hr.mono (by decide)) (by rfl) T.g__law_next T.F__law_next.kp T.b__law_next .nil pass0 (pa_cons (pv 0) pa_nil)) pe_int))
    (pss_one (ps_ret (pe_call G__law_with (hr.mono (by decide)) (by rfl) T.g__law_with T.F__law_with.kp T.b__law_with .nil pass0 (pa_cons (pv 1) (pa_cons (pv 2) (pa_cons (pv 3) (pa_cons (pe_ix (Ur.ix_listK (K := K) rfl) (pv 5) (pe_ix (Ur.ix_listK (K := K) rfl) (pe_lst (pa_cons (pv 6) (pa_cons (pe_op op_mod (pv 6) pe_int) pa_nil))) (Ur.pe_t1 call_int1 (by rfl) T.m_int (by decide +kernel) (pe_cmpR op_gt (pv 6) pe_int (nomark _))) (fun _ _ => rfl)) (fun _ _ => rfl)) pa_nil)))))))))))))), ?_⟩
    have et := tb.at_
    tb_start
    intro y1 ms1 H1 hy1 hms1 a1 b1
    have tb1 := tb.but la b1
    have b01 : But a H H1 := b1
    have et1 := tb1.at_
    have htl := tb1.pos
    have htL := tb1.le
    obtain ⟨x, hx, hxm, hxi⟩ := atI_get (xs := ts) (i := y1 % (ts.length : Int)) (Int.emod_nonneg _ (by omega)) (Int.emod_lt_of_pos _ (by omega))
    clear tb et b1
    tb_start
    intro y2 ms2 H2 hy2 hms2 a2 b2
    have b02 : But a H H2 := but_step b2 b01
    have old : Old L H2 := old0.but b02 a2
    have tb2 := tb1.but la b2
    have et2 := tb2.at_
    obtain ⟨l, ys, rfl, el2, hl1, hl2, hla, fys⟩ := (tb2.line x hxm).ex
    obtain ⟨z, hz, hzm, hzi⟩ := atI_get (xs := ys) (i := y2 % (ys.length : Int)) (Int.emod_nonneg _ (by omega)) (Int.emod_lt_of_pos _ (by omega))
    have vz := fys z hzm
    have kz := vz.kind
    have hf0 : 0 ≤ y1 % (ts.length : Int) := Int.emod_nonneg _ (by omega)
    have hf1 : y1 % (ts.length : Int) < ts.length := Int.emod_lt_of_pos _ (by omega)
    have hk0 : 0 ≤ y2 % (ys.length : Int) := Int.emod_nonneg _ (by omega)
    have hk1 : y2 % (ys.length : Int) < ys.length := Int.emod_lt_of_pos _ (by omega)
    clear tb1 et1 b01 b2 a1 hms1
    tb_start
    refine ⟨fun σ H' => Iv (∃ (w : V) (n : Int) (u5 u6 : Option V), σ = [some (.ref a), some (.ref t), some (.int (y1 % (ts.length : Int))), some (.int (y2 % (ys.length : Int))), some w, u5, u6] ∧ H' = H2 ∧ IsJ w n ∧ n.natAbs ≤ B + 1 ∧ VB L H2 (B + 1) w), ?_, ?_⟩
    · rcases kz with ⟨i, rfl⟩ | ⟨c, rfl⟩ | ⟨s, rfl⟩ | rfl | ⟨p, xs, rfl, e⟩ | ⟨p, xs, rfl, e⟩ | ⟨p, xs, rfl, e⟩
      · tb_start
        exact ⟨_, i, _, _, rfl, rfl, .inl rfl, by have := vz.bd i rfl; omega, vz.mono (by omega)⟩
      · tb_start
        exact ⟨_, if c = true then 1 else 0, _, _, rfl, rfl, .inr ⟨c, rfl, rfl⟩, by cases c <;> simp, vz.mono (by omega)⟩
      all_goals
        tb_start
        exact ⟨_, 0, _, _, rfl, rfl, .inl rfl, by simp, .int (by simp)⟩
    rintro σ H' ⟨w, n, u5, u6, rfl, rfl, hj, hn, vw⟩
    clear vz kz hz hzm
    have hlog : n.natAbs.log2 < 1920 := by
      by_cases h0 : n.natAbs = 0
      · rw [h0]; decide
      · exact (Nat.log2_lt h0).mpr (Nat.lt_of_le_of_lt (Nat.le_trans hn (Nat.add_le_add_right hB 1)) (by decide +kernel))
    tb_start
    intro w1 nw1
    have nlw1 : ∀ b, L b → w1 ≠ b := old.free nw1
    generalize hX : (upd _ w1 _) = Hw1
    have sw : Same H' Hw1 := by rw [← hX]; exact same_new nw1
    have xw1 : Hw1 w1 = some (.lst [V.int (n + 1), V.int (n - 1), V.int (n + 2), V.int 0, V.int (ts.length : Nat), V.int (-1), V.int (10 ^ (30 : Int).toNat), V.bl (n == 1), V.bl (decide (n > 0)), V.non]) := by rw [← hX]; exact upd_same
    replace a2 := sw _ _ a2
    replace old := old.same sw
    replace b02 := but_step' sw b02
    replace tb2 := tb2.same sw
    replace et2 := sw _ _ et2
    replace el2 := sw _ _ el2
    replace fys := fun y hy => (fys y hy).same sw
    replace vw := vw.same sw
    clear hX nw1
    have v1 : ∀ x ∈ [V.int (n + 1), V.int (n - 1), V.int (n + 2), V.int 0, V.int (ts.length : Nat), V.int (-1), V.int (10 ^ (30 : Int).toNat), V.bl (n == 1), V.bl (decide (n > 0)), V.non], VB L Hw1 (B + 10 ^ 31) x := fa_cons (.int (by omega)) (fa_cons (.int (by omega)) (fa_cons (.int (by omega)) (fa_cons (.int (by omega)) (fa_cons (.int (by omega)) (fa_cons (.int (by omega)) (fa_cons (.int (by rw [g30]; omega)) (fa_cons .bl (fa_cons .bl (fa_cons .non fa_nil)))))))))
    have k1 : ([V.int (n + 1), V.int (n - 1), V.int (n + 2), V.int 0, V.int (ts.length : Nat), V.int (-1), V.int (10 ^ (30 : Int).toNat), V.bl (n == 1), V.bl (decide (n > 0)), V.non] : List V).length = 10 := rfl
    generalize [V.int (n + 1), V.int (n - 1), V.int (n + 2), V.int 0, V.int (ts.length : Nat), V.int (-1), V.int (10 ^ (30 : Int).toNat), V.bl (n == 1), V.bl (decide (n > 0)), V.non] = xs1 at xw1 v1 k1
    clear sw
    tb_start
    intro z1
    tb_start
    intro w2 nw2
    have nlw2 : ∀ b, L b → w2 ≠ b := old.free nw2
    generalize hX : (upd _ w2 _) = Hw2
    have sw : Same Hw1 Hw2 := by rw [← hX]; exact same_new nw2
    have xw2 : Hw2 w2 = some (.lst [w]) := by rw [← hX]; exact upd_same
    replace a2 := sw _ _ a2
    replace old := old.same sw
    replace b02 := but_step' sw b02
    replace tb2 := tb2.same sw
    replace et2 := sw _ _ et2
    replace el2 := sw _ _ el2
    replace fys := fun y hy => (fys y hy).same sw
    replace vw := vw.same sw
    replace xw1 := sw _ _ xw1
    replace v1 := fun x hx => (v1 x hx).same sw
    clear hX nw2
    have v2 : VB L Hw2 (B + 10 ^ 31) (.ref w2) := .lst xw2 nlw2
    clear xw2 sw
    tb_start
    intro w3 nw3
    have nlw3 : ∀ b, L b → w3 ≠ b := old.free nw3
    generalize hX : (upd _ w3 _) = Hw3
    have sw : Same Hw2 Hw3 := by rw [← hX]; exact same_new nw3
    have xw3 : Hw3 w3 = some (.tup [w]) := by rw [← hX]; exact upd_same
    replace a2 := sw _ _ a2
    replace old := old.same sw
    replace b02 := but_step' sw b02
    replace tb2 := tb2.same sw
    replace et2 := sw _ _ et2
    replace el2 := sw _ _ el2
    replace fys := fun y hy => (fys y hy).same sw
    replace vw := vw.same sw
    replace xw1 := sw _ _ xw1
    replace v1 := fun x hx => (v1 x hx).same sw
    replace v2 := v2.same sw
    clear hX nw3
    have v3 : VB L Hw3 (B + 10 ^ 31) (.ref w3) := .tup xw3 nlw3
    clear xw3 sw
    tb_start
    intro w4 nw4
    have nlw4 : ∀ b, L b → w4 ≠ b := old.free nw4
    generalize hX : (upd _ w4 _) = Hw4
    have sw : Same Hw3 Hw4 := by rw [← hX]; exact same_new nw4
    have xw4 : Hw4 w4 = some (.dK []) := by rw [← hX]; exact upd_same
    replace a2 := sw _ _ a2
    replace old := old.same sw
    replace b02 := but_step' sw b02
    replace tb2 := tb2.same sw
    replace et2 := sw _ _ et2
    replace el2 := sw _ _ el2
    replace fys := fun y hy => (fys y hy).same sw
    replace vw := vw.same sw
    replace xw1 := sw _ _ xw1
    replace v1 := fun x hx => (v1 x hx).same sw
    replace v2 := v2.same sw
    replace v3 := v3.same sw
    clear hX nw4
    have v4 : VB L Hw4 (B + 10 ^ 31) (.ref w4) := .dct xw4 nlw4
    clear xw4 sw
    tb_start
    intro w5 nw5
    have nlw5 : ∀ b, L b → w5 ≠ b := old.free nw5
    generalize hX : (upd _ w5 _) = Hw5
    have sw : Same Hw4 Hw5 := by rw [← hX]; exact same_new nw5
    have xw5 : Hw5 w5 = some (.lst [V.str z1, V.ref w2, V.ref w3, V.ref w4, V.str (Str.ofString ""), V.bl true, V.bl false]) := by rw [← hX]; exact upd_same
    replace a2 := sw _ _ a2
    replace old := old.same sw
    replace b02 := but_step' sw b02
    replace tb2 := tb2.same sw
    replace et2 := sw _ _ et2
    replace el2 := sw _ _ el2
    replace fys := fun y hy => (fys y hy).same sw
    replace vw := vw.same sw
    replace xw1 := sw _ _ xw1
    replace v1 := fun x hx => (v1 x hx).same sw
    replace v2 := v2.same sw
    replace v3 := v3.same sw
    replace v4 := v4.same sw
    clear hX nw5
    have v5 : ∀ x ∈ [V.str z1, V.ref w2, V.ref w3, V.ref w4, V.str (Str.ofString ""), V.bl true, V.bl false], VB L Hw5 (B + 10 ^ 31) x := fa_cons .str (fa_cons v2 (fa_cons v3 (fa_cons v4 (fa_cons .str (fa_cons .bl (fa_cons .bl fa_nil))))))
    have k5 : ([V.str z1, V.ref w2, V.ref w3, V.ref w4, V.str (Str.ofString ""), V.bl true, V.bl false] : List V).length = 7 := rfl
    generalize [V.str z1, V.ref w2, V.ref w3, V.ref w4, V.str (Str.ofString ""), V.bl true, V.bl false] = xs5 at xw5 v5 k5
    clear sw v2 v3 v4
    tb_start
    intro w6 nw6
    have nlw6 : ∀ b, L b → w6 ≠ b := old.free nw6
    generalize hX : (upd _ w6 _) = Hw6
    have sw : Same Hw5 Hw6 := by rw [← hX]; exact same_new nw6
    have xw6 : Hw6 w6 = some (.lst (xs1 ++ xs5)) := by rw [← hX]; exact upd_same
    replace a2 := sw _ _ a2
    replace old := old.same sw
    replace b02 := but_step' sw b02
    replace tb2 := tb2.same sw
    replace et2 := sw _ _ et2
    replace el2 := sw _ _ el2
    replace fys := fun y hy => (fys y hy).same sw
    replace vw := vw.same sw
    replace v1 := fun x hx => (v1 x hx).same sw
    replace v5 := fun x hx => (v5 x hx).same sw
    clear hX nw6
    have v6 : ∀ x ∈ xs1 ++ xs5, VB L Hw6 (B + 10 ^ 31) x := fa_app v1 v5
    have k6 : (xs1 ++ xs5).length = 17 := by rw [List.length_append, k1, k5]
    generalize xs1 ++ xs5 = xs6 at xw6 v6 k6
    clear sw v1 v5 k1 k5 xw1 xw5 hj hlog vw
    tb_start
    refine ⟨fun σ H' => Iv (∃ (kd : Int) (ms : List Int), σ = [some (.ref a), some (.ref t), some (.int (y1 % (ts.length : Int))), some (.int (y2 % (ys.length : Int))), some w, some (.ref w6), some (.int kd)] ∧ 0 ≤ kd ∧ kd < 34 ∧ H' a = some (.lst (ms.map V.int)) ∧ (∀ x ∈ ms, 0 ≤ x) ∧ But a Hw6 H'), ?_, ?_⟩
    · tb_start
      intro y3 ms3 H3 hy3 hms3 a3 b3
      tb_start
      exact ⟨_, ms3, rfl, by omega, by omega, a3, hms3, b3⟩
    rintro σ H7 ⟨kd, ms7, rfl, hd0, hd1, a7, hms7, b7⟩
    have b07 := but_step b7 b02
    have tb7 := tb2.but la b7
    have et7 := b7 _ _ (tb2.ne a la) et2
    have el7 := b7 _ _ (hla a la) el2
    have fys7 := fun y hy => (fys y hy).but la b7
    have x7 := b7 _ _ (nlw6 a la) xw6
    have old7 := old.but b7 a7
    have v7 := fun x hx => (v6 x hx).but la b7
    obtain ⟨kk, hkk, hkk0, hkk1⟩ : ∃ kk : Int, atI [V.int kd, V.int (kd % 2)] (if decide (16 < kd) = true then 1 else 0) = some (.int kk) ∧ 0 ≤ kk ∧ kk < 17 := by
      by_cases h : 16 < kd
      · rw [decide_eq_true h, if_pos rfl]; exact ⟨kd % 2, rfl, by omega, by omega⟩
      · rw [decide_eq_false h, if_neg Bool.false_ne_true]; exact ⟨kd, rfl, by omega, by omega⟩
    obtain ⟨v, hv, hvm, _⟩ := atI_get (xs := xs6) (i := kk) (by omega) (by omega)
    have vv := v7 v hvm
    clear b7 tb2 et2 el2 fys xw6 v6 a2 v7
    tb_start
    intro w7 nw7
    have s7 : Same H7 (upd H7 w7 (.lst [V.int kd, V.int (kd % 2)])) := same_new nw7
    have x8 := s7 _ _ x7
    have et8 := s7 _ _ et7
    have el8 := s7 _ _ el7
    tb_start
    intro p p2 H9 e9 e29 s9 n9 n29
    have s79 := s7.trans s9
    have a9 := s79 _ _ a7
    have n7 : H7 p = none := s7.free n9
    exact q p _ ms7 H9 (((tb7.same s79).mono (by omega)).with_ (by omega) (by omega) hl2 (fun y hy => ((fys7 y hy).same s79).mono (by omega)) (vv.same s79) e9 e29 (old7.free n7) (old7.free (s7.free n29))) a9 hms7 (but_step' s79 b07) (but_free n7 b07 a7)
end
end Ur
namespace Ur
open PySem L2
/-- whether a thing is a whole number -/
def sp_is_whole_lasts (K : PySem.W.Frag) : Sp := fun vs H Q _ => ∃ (v : V) (b : Bool), vs = [v] ∧ IsW H v b ∧ Q (.bl b) H
section
variable {P : Program} {w : World} {K : PySem.W.Frag} {mg : Str → Option Value} {base : Heap} {A : Adr}
theorem ok_is_whole_lasts (T : Txt K mg A) : FnOk P w K mg base CX0 1 A.f_is_whole_lasts A.d_is_whole_lasts ["thing"] (sp_is_whole_lasts K) := by
  refine T.F_is_whole_lasts.ok sc_is_whole_lasts (fun vs H Q E h => ?_) (fun cdv Ar outer s H vs Q E hr h => ?_)
  · obtain ⟨v, b, rfl, _⟩ := h
    rfl
  · obtain ⟨v, b, rfl, hw, q⟩ := h
    refine ⟨_, (pss_one (ps_ret (pe_and (Ur.pe_b2 (Ur.call_isiK (K := K) rfl) (by rfl) T.m_isinstance (by decide +kernel) (pv 0) (pe_bltn (v := .ty "int") (by rfl) T.m_int (by decide +kernel) rfl)) (pe_one (pe_not (Ur.pe_b2 (Ur.call_isiK (K := K) rfl) (by rfl) T.m_isinstance (by decide +kernel) (pv 0) (pe_bltn (v := .ty "bool") (by rfl) T.m_bool (by decide +kernel) rfl))))))), ?_⟩
    rcases hw with ⟨rfl, i, rfl⟩ | ⟨rfl, hk, hn⟩
    · tb_start
      exact q
    · rcases hk with ⟨i, rfl⟩ | ⟨c, rfl⟩ | ⟨x, rfl⟩ | rfl | ⟨p, xs, rfl, hp⟩ | ⟨p, xs, rfl, hp⟩ | ⟨p, xs, rfl, hp⟩
      · exact (hn i rfl).elim
      all_goals
        tb_start
        exact q
end
end Ur
namespace Ur
open PySem L2
/-- whether a thing is a list of last places -/
def sp_are_lasts (K : PySem.W.Frag) : Sp := fun vs H Q _ => ∃ (L : Addr → Prop) (v : V) (b : Bool), vs = [v] ∧ Th L H v ∧ LasB H v b ∧ ∀ H', Same H H' → Q (.bl b) H'
section
variable {P : Program} {w : World} {K : PySem.W.Frag} {mg : Str → Option Value} {base : Heap} {A : Adr}
theorem ok_are_lasts (T : Txt K mg A) : FnOk P w K mg base CX0 2 A.f_are_lasts A.d_are_lasts ["thing"] (sp_are_lasts K) := by
  have G_is_whole_lasts := ok_is_whole_lasts (P := P) (w := w) (base := base) T
  refine T.F_are_lasts.ok sc_are_lasts (fun vs H Q E h => ?_) (fun cdv Ar outer s H vs Q E hr h => ?_)
  · obtain ⟨L, v, b, rfl, _⟩ := h
    rfl
  · obtain ⟨L, v, b, rfl, ht, hb, q⟩ := h
    refine ⟨_, (pss_cons (ps_if (pt_not (pt_val (Ur.pe_b2 (Ur.call_isiK (K := K) rfl) (by rfl) T.m_isinstance (by decide +kernel) (pv 0) (pe_bltn (v := .ty "list") (by rfl) T.m_list (by decide +kernel) rfl)))) (pss_one (ps_ret pe_bl)) pss_nil)
    (pss_cons (ps_set (i := 1) sc_are_lasts.nd rfl (Or.inl rfl) pe_dnewK)
    (pss_cons (ps_for PassesOwn.never (by rfl) (pi_enum (by rfl) T.m_enumerate (pa_cons (pv 0) pa_nil)) (pg_tup (by rfl) (pgs_cons (pg_name (i := 2) sc_are_lasts.nd rfl (Or.inl rfl)) (pgs_cons (pg_name (i := 3) sc_are_lasts.nd rfl (Or.inl rfl)) pgs_nil))) (pss_cons (ps_if (PW.pt (pw_or (pt_not (pt_val (pe_call G_is_whole_lasts (hr.mono (by decide)) (by rfl) T.g_is_whole_lasts T.F_is_whole_lasts.kp T.b_is_whole_lasts .nil pass0 (pa_cons (pv 3) pa_nil)))) (pw_or (pt_not (pt_chain op_le op_lt (pe_un un_neg pe_int) (pv 3) (pv 2))) (pw_or1 (pt_cmp (pc_din (hu_of hr) (pv 3) (pv 1))))))) (pss_one (ps_ret pe_bl)) pss_nil)
    (pss_one (ps_if (pt_cmpR op_ge (pv 3) pe_int (nomark _)) (pss_one (ps_dput (hu_of hr) (pv 1) (pv 3) pe_bl rfl)) pss_nil))))
    (pss_one (ps_ret pe_bl))))), ?_⟩
    rcases Kind.isList (K := K) ht.kind with ⟨p, xs, rfl, e⟩ | ⟨hn, t, ty, kb⟩
    · obtain ⟨hl, hx⟩ := ht.items p xs rfl e
      tb_start
      intro m nm
      tb_start
      refine for_enum (xs := xs) (fun i σ H' => Iv (∃ (kvs : List (Key × V)) (x y : Option V), σ = [some (.ref p), some (.ref m), x, y] ∧ H' m = some (.dK kvs) ∧ Same H H' ∧ kvs.length ≤ i ∧ (∀ j w, j < i → xs[j]? = some w → LasAt xs j w) ∧ ∀ z : Int, valV kvs (Sum.inl z) = if 0 ≤ z ∧ V.int z ∈ xs.take i then some (.bl true) else none)) ?h0 ?hl ?hs ?hd
      case h0 => exact ⟨[], _, _, rfl, upd_same, by kcj_in, Nat.le_refl _, fun j w h => absurd h (Nat.not_lt_zero _), fun z => by rw [List.take_zero, if_neg (fun k => nomatch k.2)]; rfl⟩
      case hl =>
        rintro i σ H' hi ⟨kvs, x, y, rfl, hm, s, hk, hp, hv⟩
        kct_strs
      case hd =>
        rintro σ H' ⟨kvs, x, y, rfl, hm, s, hk, hp, hv⟩
        have hg : b = true := hb.good e fun i x hx => hp i x (List.getElem?_eq_some_iff.mp hx).1 hx
        subst hg
        tb_start
        exact q _ s
      case hs =>
        rintro i x σ H1 H' hxi ⟨kvs, u, y, rfl, hm, s, hk, hp, hv⟩ s2
        have hi := (List.getElem?_eq_some_iff.mp hxi).1
        have s3 := s.trans s2
        have hm2 := s2 _ _ hm
        have hkx := ((hx.all x (List.mem_of_getElem? hxi)).1).same s3
        have ho := fun n => hb.bad e hxi n
        clear s2 s hm
        rcases hkx.whole with ⟨n, rfl⟩ | ⟨hno, hw⟩
        · by_cases h1 : -1 ≤ n
          · by_cases h2 : n < i
            · tb_start
              rw [hv n]
              by_cases h3 : 0 ≤ n ∧ V.int n ∈ xs.take i
              · rw [if_pos h3]
                have hg : b = false := ho fun ⟨m, e1, _, _, e4⟩ => by cases e1; exact e4 h3.1 h3.2
                subst hg
                tb_start
                exact q _ s3
              · rw [if_neg h3]
                have hat : LasAt xs i (.int n) := ⟨n, rfl, h1, h2, fun h k => h3 ⟨h, k⟩⟩
                have hp2 : ∀ j w, j < i + 1 → xs[j]? = some w → LasAt xs j w := fun j w hj hw => by
                  by_cases h : j < i
                  · exact hp j w h hw
                  · have : j = i := by omega
                    subst this
                    rw [hxi] at hw
                    cases hw
                    exact hat
                have hts := take_snocV hxi
                tb_start
                refine br (fun hq => ?_) (fun hq => ?_)
                · tb_start
                  refine ⟨_, _, _, rfl, by kct_strs, by kcj_in, Nat.le_trans (putK_le _ _ _) (by omega), hp2, fun z => ?_⟩
                  rw [val_put, hv z, hts]
                  by_cases hz : z = n
                  · rw [if_pos hz, if_pos ⟨by omega, List.mem_append.mpr (.inr (List.mem_singleton.mpr (by rw [hz])))⟩]
                  · rw [if_neg hz]
                    by_cases hw : 0 ≤ z ∧ V.int z ∈ xs.take i
                    · rw [if_pos hw, if_pos ⟨hw.1, List.mem_append.mpr (.inl hw.2)⟩]
                    · rw [if_neg hw, if_neg (fun k => by
                        rcases List.mem_append.mp k.2 with k2 | k2
                        · exact hw ⟨k.1, k2⟩
                        · exact hz (by have := List.mem_singleton.mp k2; injection this))]
                · tb_start
                  refine ⟨_, _, _, rfl, by kct_strs, by kcj_in, by omega, hp2, fun z => ?_⟩
                  rw [hv z, hts]
                  by_cases hw : 0 ≤ z ∧ V.int z ∈ xs.take i
                  · rw [if_pos hw, if_pos ⟨hw.1, List.mem_append.mpr (.inl hw.2)⟩]
                  · rw [if_neg hw, if_neg (fun k => by
                      rcases List.mem_append.mp k.2 with k2 | k2
                      · exact hw ⟨k.1, k2⟩
                      · have := List.mem_singleton.mp k2
                        injection this with this
                        omega)]
            · have hg : b = false := ho fun ⟨m, e1, _, e3, _⟩ => by cases e1; exact h2 e3
              subst hg
              tb_start
              exact q _ s3
          · have hg : b = false := ho fun ⟨m, e1, e2, _, _⟩ => by cases e1; exact h1 e2
            subst hg
            tb_start
            exact q _ s3
        · have hg : b = false := ho fun ⟨m, e1, _⟩ => hno m e1
          subst hg
          tb_start
          exact q _ s3
    · have hg : b = false := hb.off hn
      subst hg
      tb_start
      exact q _ (by kcj_in)
end
end Ur
namespace Ur
open PySem L2
/-- whether a thing is a whole number -/
def sp_is_whole_tables (K : PySem.W.Frag) : Sp := fun vs H Q _ => ∃ (v : V) (b : Bool), vs = [v] ∧ IsW H v b ∧ Q (.bl b) H
section
variable {P : Program} {w : World} {K : PySem.W.Frag} {mg : Str → Option Value} {base : Heap} {A : Adr}
theorem ok_is_whole_tables (T : Txt K mg A) : FnOk P w K mg base CX0 1 A.f_is_whole_tables A.d_is_whole_tables ["thing"] (sp_is_whole_tables K) := by
  refine T.F_is_whole_tables.ok sc_is_whole_tables (fun vs H Q E h => ?_) (fun cdv Ar outer s H vs Q E hr h => ?_)
  · obtain ⟨v, b, rfl, _⟩ := h
    rfl
  · obtain ⟨v, b, rfl, hw, q⟩ := h
    refine ⟨_, (pss_one (ps_ret (pe_and (Ur.pe_b2 (Ur.call_isiK (K := K) rfl) (by rfl) T.m_isinstance (by decide +kernel) (pv 0) (pe_bltn (v := .ty "int") (by rfl) T.m_int (by decide +kernel) rfl)) (pe_one (pe_not (Ur.pe_b2 (Ur.call_isiK (K := K) rfl) (by rfl) T.m_isinstance (by decide +kernel) (pv 0) (pe_bltn (v := .ty "bool") (by rfl) T.m_bool (by decide +kernel) rfl))))))), ?_⟩
    rcases hw with ⟨rfl, i, rfl⟩ | ⟨rfl, hk, hn⟩
    · tb_start
      exact q
    · rcases hk with ⟨i, rfl⟩ | ⟨c, rfl⟩ | ⟨x, rfl⟩ | rfl | ⟨p, xs, rfl, hp⟩ | ⟨p, xs, rfl, hp⟩ | ⟨p, xs, rfl, hp⟩
      · exact (hn i rfl).elim
      all_goals
        tb_start
        exact q
end
end Ur
namespace Ur
open PySem L2
/-- whether a thing is lines of whole numbers, each one shorter -/
def sp_is_shaped (K : PySem.W.Frag) : Sp := fun vs H Q _ => ∃ (L : Addr → Prop) (v : V) (b : Bool), vs = [v] ∧ TT L H v ∧ ShB H v b ∧ ∀ H', Same H H' → Q (.bl b) H'
section
variable {P : Program} {w : World} {K : PySem.W.Frag} {mg : Str → Option Value} {base : Heap} {A : Adr}
theorem ok_is_shaped (T : Txt K mg A) : FnOk P w K mg base CX0 2 A.f_is_shaped A.d_is_shaped ["thing"] (sp_is_shaped K) := by
  have G_is_whole_tables := ok_is_whole_tables (P := P) (w := w) (base := base) T
  refine T.F_is_shaped.ok sc_is_shaped (fun vs H Q E h => ?_) (fun cdv Ar outer s H vs Q E hr h => ?_)
  · obtain ⟨L, v, b, rfl, _⟩ := h
    rfl
  · obtain ⟨L, v, b, rfl, ht, hb, q⟩ := h
    refine ⟨_, (pss_cons (ps_if (PW.pt (pw_or (pt_not (pt_val (Ur.pe_b2 (Ur.call_isiK (K := K) rfl) (by rfl) T.m_isinstance (by decide +kernel) (pv 0) (pe_bltn (v := .ty "list") (by rfl) T.m_list (by decide +kernel) rfl)))) (pw_or1 (pt_cmpR op_eq (Ur.pe_b1 (Ur.call_lenIK (K := K) rfl) (by rfl) T.m_len (by decide +kernel) (pv 0)) pe_int (nomark _))))) (pss_one (ps_ret pe_bl)) pss_nil)
    (pss_cons (ps_for PassesOwn.never (by rfl) (pi_enum (by rfl) T.m_enumerate (pa_cons (pv 0) pa_nil)) (pg_tup (by rfl) (pgs_cons (pg_name (i := 1) sc_is_shaped.nd rfl (Or.inl rfl)) (pgs_cons (pg_name (i := 2) sc_is_shaped.nd rfl (Or.inl rfl)) pgs_nil))) (pss_cons (ps_if (PW.pt (pw_or (pt_not (pt_val (Ur.pe_b2 (Ur.call_isiK (K := K) rfl) (by rfl) T.m_isinstance (by decide +kernel) (pv 2) (pe_bltn (v := .ty "list") (by rfl) T.m_list (by decide +kernel) rfl)))) (pw_or1 (pt_cmpR op_ne (Ur.pe_b1 (Ur.call_lenIK (K := K) rfl) (by rfl) T.m_len (by decide +kernel) (pv 2)) (pe_op op_sub (Ur.pe_b1 (Ur.call_lenIK (K := K) rfl) (by rfl) T.m_len (by decide +kernel) (pv 0)) (pv 1)) (nomark _))))) (pss_one (ps_ret pe_bl)) pss_nil)
    (pss_one (ps_if (pt_not (pt_val (Ur.pe_b1 (Ur.cr_allK (K := K) rfl rfl) (by rfl) T.m_all (by decide +kernel) (pe_lc (own := [("number", 3)]) (g := gName 3) (by rfl) sc_is_shaped.nd (pi_list (pv 2)) (blkOk_by (own := [("number", 3)]) (N := ["thing", "first", "line", "number"]) (by kernel_rfl)) (fun _ _ _ _ _ => pg_name (i := 3) sc_is_shaped.nd rfl (Or.inl rfl)) (fun _ _ _ _ _ => pts_nil) (fun _ _ _ _ _ => (pe_call G_is_whole_tables (hr.mono (by decide)) (by rfl) T.g_is_whole_tables T.F_is_whole_tables.kp T.b_is_whole_tables .nil pass0 (pa_cons (pv 3) pa_nil))))))) (pss_one (ps_ret pe_bl)) pss_nil))))
    (pss_one (ps_ret pe_bl)))), ?_⟩
    rcases Kind.isList (K := K) ht.kind with ⟨p, xs, rfl, e⟩ | ⟨hn, t, ty, kb⟩
    · obtain ⟨hlx, hx⟩ := ht.items p xs rfl e
      by_cases h0 : xs = []
      · have hg : b = false := hb.off fun z => (z.at e).1 h0
        subst hg
        subst h0
        tb_start
        exact q _ (by kcj_in)
      have hpos : 0 < xs.length := List.length_pos_iff.mpr h0
      tb_start
      refine bri (fun h => absurd h (by omega)) (fun _ => ?_)
      tb_start
      refine for_enum (xs := xs) (fun i σ H' => Iv (∃ (u1 u2 u3 : Option V), σ = [some (.ref p), u1, u2, u3] ∧ Same H H' ∧ ∀ j w, j < i → xs[j]? = some w → ShAt H xs j w)) ?h0 ?hl ?hs ?hd
      case h0 => exact ⟨_, _, _, rfl, by kcj_in, fun j w h => absurd h (Nat.not_lt_zero _)⟩
      case hl =>
        rintro i σ H' hi ⟨u1, u2, u3, rfl, s, hp⟩
        kct_strs
      case hd =>
        rintro σ H' ⟨u1, u2, u3, rfl, s, hp⟩
        have hg : b = true := hb.mpr ⟨p, xs, rfl, e, h0, fun i x hx => hp i x (List.getElem?_eq_some_iff.mp hx).1 hx⟩
        subst hg
        tb_start
        exact q _ s
      case hs =>
        rintro i x σ H1 H' hxi ⟨u1, u2, u3, rfl, s, hp⟩ s2
        have hi := (List.getElem?_eq_some_iff.mp hxi).1
        have s3 : Same H H' := s.trans s2
        have tx := hx x (List.mem_of_getElem? hxi)
        have tx' := tx.same s3
        have e' := s3 _ _ e
        have ho : ¬ ShAt H xs i x → b = false := fun n => hb.off fun z => n ((z.at e).2 i x hxi)
        clear s s2
        rcases Kind.isList (K := K) tx.kind with ⟨l, ys, rfl, el0⟩ | ⟨hn, t, ty, kb⟩
        · obtain ⟨hly, hy⟩ := tx.items l ys rfl el0
          have el := s3 _ _ el0
          by_cases hlen : ys.length = xs.length - i
          · tb_start
            refine brni (fun h => absurd (by omega) h) (fun _ => ?_)
            tb_start
            intro D nD
            refine lc_vals (xs := ys) (fun x => V.bl (isI x)) (by omega) (SqL.of el) nD (fun _ => rfl) ?he ?hd2
            case he =>
              intro y H'' hm s4 Q' q'
              have hw := ((hy.all y hm).1.same (s3.trans s4)).isW
              tb_start
              exact q' _ (by kcj_in)
            case hd2 =>
              intro H'' s4 e4
              have e5 : H'' D = some (.lst ((ys.map isI).map V.bl)) := by rw [e4, List.map_map]; rfl
              tb_start
              cases hall : (ys.map isI).all id with
              | true =>
                tb_start
                refine ⟨_, _, _, rfl, s3.trans s4, fun j w hj hw => ?_⟩
                by_cases h : j < i
                · exact hp j w h hw
                · have : j = i := by omega
                  subst this
                  rw [hxi] at hw
                  cases hw
                  obtain ⟨ms, rfl⟩ := ints_of (xs := ys) fun y hy2 => isI_int (List.all_eq_true.mp hall _ (List.mem_map.mpr ⟨y, hy2, rfl⟩))
                  exact ⟨l, ms, rfl, el0, by rw [List.length_map] at hlen; exact hlen⟩
              | false =>
                have hg := ho fun ⟨q', ms, e1, e2, _⟩ => by
                  cases e1
                  rw [el0] at e2
                  cases e2
                  have : ((ms.map V.int).map isI).all id = true := List.all_eq_true.mpr fun z hz => by
                    obtain ⟨y, hy2, rfl⟩ := List.mem_map.mp hz
                    obtain ⟨m, _, rfl⟩ := List.mem_map.mp hy2
                    rfl
                  rw [this] at hall
                  cases hall
                subst hg
                tb_start
                exact q _ (s3.trans s4)
          · have hg := ho fun ⟨q', ms, e1, e2, e3⟩ => by
              cases e1
              rw [el0] at e2
              cases e2
              exact hlen (by rw [List.length_map]; exact e3)
            subst hg
            tb_start
            refine brni (fun _ => ?_) (fun h => absurd h (by omega))
            tb_start
            exact q _ s3
        · have ty' : ∃ t, TyX K H' x (.type t) ∧ kitB t "list" = some false := by
            rcases Kind.isList (K := K) tx'.kind with ⟨l, ys, rfl, el⟩ | ⟨_, t, h1, h2⟩
            · obtain ⟨o, ho2⟩ := tx.kind.some
              have z := s3 _ _ ho2
              rw [el] at z
              cases z
              exact (hn l ys rfl ho2).elim
            · exact ⟨t, h1, h2⟩
          obtain ⟨t', ty2, kb2⟩ := ty'
          have hg := ho fun ⟨q', ms, e1, e2, _⟩ => hn q' _ e1 e2
          subst hg
          clear ty
          tb_start
          exact q _ s3
    · have hg : b = false := hb.off fun ⟨p, xs, e, k, _⟩ => hn p xs e k
      subst hg
      tb_start
      exact q _ (by kcj_in)
end
end Ur
namespace Ur
open PySem L2
/-- the last places that lines tell, if they are a table -/
def sp_lasts_by (K : PySem.W.Frag) : Sp := fun vs H Q _ => ∃ (t : Addr) (ls : List Addr) (n : Nat) (F : Nat → List Int), vs = [.ref t] ∧ H t = some (.lst (ls.map V.ref)) ∧ RowsF H ls (n + 1) F ∧ (∀ k, k ≤ n → (F k).length = n + 1 - k) ∧ n ≤ 2000 ∧ ∀ p H', H' p = some (.lst ((lbv F n).map V.int)) → Same H H' → H p = none → Q (.ref p) H'
section
variable {P : Program} {w : World} {K : PySem.W.Frag} {mg : Str → Option Value} {base : Heap} {A : Adr}
theorem ok_lasts_by (T : Txt K mg A) : FnOk P w K mg base CX0 1 A.f_lasts_by A.d_lasts_by ["table"] (sp_lasts_by K) := by
  refine T.F_lasts_by.ok sc_lasts_by (fun vs H Q E h => ?_) (fun cdv Ar outer s H vs Q E hr h => ?_)
  · obtain ⟨t, ls, n, F, rfl, _⟩ := h
    rfl
  · obtain ⟨t, ls, n, F, rfl, ht, r, hF, hl, q⟩ := h
    have hll := r.len
    have hlp := lbv_len F n
    refine ⟨_, (pss_cons (ps_set (i := 1) sc_lasts_by.nd rfl (Or.inl rfl) (pe_lst pa_nil))
    (pss_cons (ps_for PassesOwn.never (by rfl) (pi_range1 (by rfl) T.m_range (pa_cons (pe_op op_sub (Ur.pe_b1 (Ur.call_lenIK (K := K) rfl) (by rfl) T.m_len (by decide +kernel) (pv 0)) pe_int) pa_nil)) (pg_name (i := 2) sc_lasts_by.nd rfl (Or.inr rfl)) (pss_cons (ps_setLc (i := 3) (own := [("first", 4)]) (g := gName 4) (by rfl) sc_lasts_by.nd rfl rfl (sw_true rfl rfl rfl (by decide +kernel)) (pi_range1 (by rfl) T.m_range (pa_cons (pe_op op_add (pv 2) pe_int) pa_nil)) (blkOk_by (own := [("first", 4)]) (N := ["table", "found", "place", "lines", "first", "line"]) (by kernel_rfl)) (fun _ _ _ _ _ => pg_name (i := 4) sc_lasts_by.nd rfl (Or.inl rfl)) (fun _ _ _ _ _ => pts_nil) (fun _ _ _ _ _ => (pe_slice (Ur.sl_listK (K := K) rfl) (pe_ix (Ur.ix_listK (K := K) rfl) (pv 0) (pv 4) (fun _ _ => rfl)) (po_some (pe_op op_sub (pv 2) (pv 4))) (po_some (pe_op op_add (pe_op op_sub (pv 2) (pv 4)) pe_int)))))
    (pss_one (ps_expr (pe_bm PySem.F.plainAttrs_list PySem.F.slot_list_append PySem.F.type_list_append mt_append (pv 1) (pa_cons (pe_op op_sub (Ur.pe_b1 (Ur.call_lenIK (K := K) rfl) (by rfl) T.m_len (by decide +kernel) (pe_lc (own := [("line", 5)]) (g := gName 5) (by rfl) sc_lasts_by.nd (pi_list (pv 3)) (blkOk_by (own := [("line", 5)]) (N := ["table", "found", "place", "lines", "first", "line"]) (by kernel_rfl)) (fun _ _ _ _ _ => pg_name (i := 5) sc_lasts_by.nd rfl (Or.inl rfl)) (fun _ _ _ _ _ => pts_one (pt_cmpR op_eq (pe_ix (Ur.ix_listK (K := K) rfl) (pv 5) pe_int (fun _ _ => rfl)) (pe_ix (Ur.ix_listK (K := K) rfl) (pv 5) pe_int (fun _ _ => rfl)) (nomark _))) (fun _ _ _ _ _ => (pv 5)))) pe_int) pa_nil))))))
    (pss_one (ps_ret (pv 1))))), ?_⟩
    tb_start
    intro fo nfo
    tb_start
    refine for_range (fun i σ H' => Iv (∃ (u2 u3 u4 u5 : Option V), σ = [some (.ref t), some (.ref fo), u2, u3, u4, u5] ∧ H' fo = some (.lst (((lbv F n).take i).map V.int)) ∧ Same H H')) ?h0 ?hs ?hd
    case h0 => exact ⟨_, _, _, _, rfl, upd_same, by kcj_in⟩
    case hd =>
      rintro σ H' ⟨u2, u3, u4, u5, rfl, ef, s⟩
      rw [show ((ls.length : Int) - 1).toNat = (lbv F n).length by omega, List.take_length] at ef
      tb_start
      exact q _ _ ef s nfo
    case hs =>
      rintro i σ H1 hi ⟨u2, u3, u4, u5, rfl, ef, s⟩
      have hi2 : i < n := by omega
      have ht1 := s _ _ ht
      have r1 := r.same s
      tb_start
      intro D nD
      refine lc_rngL (fun k => [(F k).getD (i - k) 0, (F k).getD (i - k + 1) 0]) (by omega) nD (fun _ => rfl) ?he ?hd2
      case he =>
        intro k H' hk s2 Q' q'
        have hk2 : k < ls.length := by omega
        have el := (r1.same s2).row k _ (List.getElem?_eq_getElem hk2)
        have gl : atI (ls.map V.ref) (0 + (k : Int)) = some (.ref ls[k]) := by
          rw [Int.zero_add]
          exact atI_nat (by rw [List.getElem?_map, List.getElem?_eq_getElem hk2]; rfl)
        have ht2 := s2 _ _ ht1
        tb_start
        intro p3 np3
        refine q' p3 _ (same_new np3) ?_ np3
        have hFk := hF k (by omega)
        have i1 : ((0 + (i : Int)) - (0 + (k : Int))).toNat = i - k := by omega
        rw [upd_same, cutI_mid _ (by omega) (by omega), show ((0 + (i : Int)) - (0 + (k : Int)) + 2).toNat - ((0 + (i : Int)) - (0 + (k : Int))).toNat = 2 by omega, i1, drop2 (by omega)]
      case hd2 =>
        intro H' qs s2 eD r2 f2 nd2
        have hql := r2.len
        have hq2 : qs.length = i + 1 := by omega
        have sH := s.trans s2
        have ef2 := s2 _ _ ef
        tb_start
        intro D3 nD3
        refine lc_refsIfN (ls := qs) (fun k => decide ((F k).getD (i - k) 0 = (F k).getD (i - k + 1) 0)) (by omega) (SqL.of eD) nD3 (fun _ => rfl) ?ht3 ?he3 ?hd3
        case ht3 =>
          intro k p H4 hk s4 Q' q'
          have el := s4 _ _ (r2.row k p hk)
          have e4 : H4 p = some (.lst (([(F k).getD (i - k) 0, (F k).getD (i - k + 1) 0] : List Int).map V.int)) := el
          have hl2 : ([(F k).getD (i - k) 0, (F k).getD (i - k + 1) 0] : List Int).length = 2 := rfl
          have a0 : atI (([(F k).getD (i - k) 0, (F k).getD (i - k + 1) 0] : List Int).map V.int) 0 = some (.int ((F k).getD (i - k) 0)) := rfl
          have a1 : atI (([(F k).getD (i - k) 0, (F k).getD (i - k + 1) 0] : List Int).map V.int) 1 = some (.int ((F k).getD (i - k + 1) 0)) := rfl
          tb_start
          exact qbl (q' _ (by kcj_in)) (decide_eq_decide.mpr ⟨fun h => V.int.inj h, fun h => by rw [h]⟩)
        case he3 =>
          intro k p H4 hk s4 Q' q'
          tb_start
          exact q' _ (by kcj_in)
        case hd3 =>
          intro H4 rs s4 e4 hrl
          have hll2 := lbv_get (F := F) hi2
          rw [hq2] at hrl
          rw [← hrl] at hll2
          have hrb : rs.length ≤ i + 1 := by
            have := List.length_filter_le (fun k => decide ((F k).getD (i - k) 0 = (F k).getD (i - k + 1) 0)) (List.range (i + 1))
            rw [List.length_range] at this
            omega
          have ef4 := s4 _ _ ef2
          tb_start
          refine ⟨_, _, _, _, rfl, ?_, by kcj_in⟩
          rw [upd_same, take_snoc hll2, List.map_append]
          rfl
end
end Ur
namespace Ur
open PySem L2
/-- the plain row of last places; others are refused -/
def sp_row_of (K : PySem.W.Frag) (C : Addr) : Sp := fun vs H Q E => ∃ (L : Addr → Prop) (v : V) (b : Bool), vs = [v] ∧ Th L H v ∧ LasB H v b ∧ (∀ p (r : List Int), v = .ref p → H p = some (.lst ((lastP r).map V.int)) → ∀ q H', H' q = some (.lst ((plainP r).map V.int)) → Same H H' → H q = none → Q (.ref q) H') ∧ (b = false → ∀ H', Same H H' → E (.ref C) none H')
section
variable {P : Program} {w : World} {K : PySem.W.Frag} {mg : Str → Option Value} {base : Heap} {A : Adr}
theorem ok_row_of (T : Txt K mg A) : FnOk P w K mg base (L2.CX P w) 3 A.f_row_of A.d_row_of ["lasts"] (sp_row_of K A.c_NoTable) := by
  have G_are_lasts := ok_are_lasts (P := P) (w := w) (base := base) T
  refine T.F_row_of.okX sc_row_of (fun vs H Q E h => ?_) (fun cdv Ar outer s H vs Q E hr h => ?_)
  · obtain ⟨L, v, b, rfl, _⟩ := h
    rfl
  · obtain ⟨L, v, b, rfl, ht, hb, qy, qn⟩ := h
    refine ⟨_, (pss_cons (ps_if (pt_not (pt_val (pe_call G_are_lasts (hr.mono (by decide)) (by rfl) T.g_are_lasts T.F_are_lasts.kp T.b_are_lasts .nil pass0 (pa_cons (pv 0) pa_nil)))) (pss_one (ps_raise rfl (takes_of rfl rfl rfl rfl) (pmk_own PySem.F.excBase_ValueError T.x_NoTable T.g_NoTable T.k_NoTable (raises_own T.b_NoTable T.t_NoTable) (by exact rfl)))) pss_nil)
    (pss_cons (ps_set (i := 1) sc_row_of.nd rfl (Or.inl rfl) (pe_lst pa_nil))
    (pss_cons (ps_set (i := 2) sc_row_of.nd rfl (Or.inl rfl) pe_int)
    (pss_cons (ps_for (passes_of rfl) (by rfl) (pi_list (pv 0)) (pg_name (i := 3) sc_row_of.nd rfl (Or.inl rfl)) (pss_one (ps_if (pt_cmpR op_lt (pv 3) pe_int (nomark _)) (pss_cons (ps_expr (pe_bm PySem.F.plainAttrs_list PySem.F.slot_list_append PySem.F.type_list_append mt_append (pv 1) (pa_cons (pv 2) pa_nil)))
    (pss_one (ps_aug (i := 2) sc_row_of.nd rfl (Or.inl rfl) pe_int ip_add))) (pss_one (ps_expr (pe_bm PySem.F.plainAttrs_list PySem.F.slot_list_append PySem.F.type_list_append mt_append (pv 1) (pa_cons (pe_ix (Ur.ix_listK (K := K) rfl) (pv 1) (pv 3) (fun _ _ => rfl)) pa_nil)))))))
    (pss_one (ps_ret (pv 1))))))), ?_⟩
    cases b with
    | false =>
      tb_start
      intro H1 s1
      tb_start
      exact qn rfl _ s1
    | true =>
      obtain ⟨a, r, rfl, ha⟩ := hb.row
      have hl : r.length ≤ 2000 := by
        have := (ht.items a _ rfl ha).1
        rwa [List.length_map, lastP_len] at this
      have q := qy a r rfl ha
      have lb := hb
      have hlp := lastP_len r
      have hpl := plainP_len r
      tb_start
      intro H1 s1
      have ha1 := s1 _ _ ha
      tb_start
      intro l nl
      tb_start
      refine for_ints (ns := lastP r) (fun i σ H' => Iv (∃ (x : Option V), σ = [some (.ref a), some (.ref l), some (.int (ulen (r.take i) : Nat)), x] ∧ H' l = some (.lst (((plainP r).take i).map V.int)) ∧ Same H1 H')) ?h0 ?hl ?hs ?hd
      case h0 => exact ⟨_, rfl, upd_same, by kcj_in⟩
      case hl =>
        rintro i σ H' hi ⟨x, rfl, e, s⟩
        kct_strs
      case hd =>
        rintro σ H' ⟨x, rfl, e, s⟩
        rw [hlp, ← hpl, List.take_length] at e
        tb_start
        exact q _ _ e (by kcj_in) (by cc_off)
      case hs =>
        rintro i n σ H' hn ⟨x, rfl, e, s⟩
        have hi : i < r.length := by
          have := (List.getElem?_eq_some_iff.mp hn).1
          omega
        obtain ⟨o1, o2, _⟩ := lastP_ok hn
        have hn2 : n = lastAt r i (r.getD i 0) := by
          rw [lastP_get hi] at hn
          exact (Option.some.inj hn).symm
        have hnew := last_new hi
        rw [← hn2] at hnew
        have hpt : (plainP r)[i]? = some (plainAt r (r.getD i 0) : Int) := by
          unfold plainP
          rw [List.getElem?_map, get_of hi]; rfl
        have hul := ulen_le (r.take i)
        have hsn := ulen_snoc (r.take i) (r.getD i 0)
        rw [← take_snoc (get_of hi)] at hsn
        have htl : ((plainP r).take i).length = i := by rw [List.length_take]; omega
        tb_start
        refine br (fun hq => ?_) (fun hq => ?_)
        · have hid : r.idxOf (r.getD i 0) = i := idx_first (get_of hi) (hnew.mp hq)
          have hpa : plainAt r (r.getD i 0) = ulen (r.take i) := by unfold plainAt; rw [hid]
          rw [if_neg (hnew.mp hq)] at hsn
          tb_start
          exact ⟨_, by rw [hsn]; rfl, lst_cast (by kct_strs) (by rw [take_snoc hpt, hpa]), by kcj_in⟩
        · rw [if_pos (Classical.byContradiction fun k => hq (hnew.mpr k))] at hsn
          have hv : ((plainP r).take i).getD n.toNat 0 = (plainAt r (r.getD i 0) : Int) := by
            rcases lastAt_spec r (r.getD i 0) i with ⟨k, _⟩ | ⟨v, k1, k2, k3, _⟩
            · omega
            · have hv1 : n.toNat = v := by omega
              rw [hv1, List.getD_eq_getElem?_getD, List.getElem?_take, if_pos k2]
              unfold plainP
              rw [List.getElem?_map, get_of (by omega), k3]
              rfl
          tb_start
          refine ⟨_, by rw [hsn]; rfl, lst_cast (by kct_strs) (by rw [take_snoc hpt, hv]), by kcj_in⟩
end
end Ur
namespace Ur
open PySem L2
/-- a row's line: how many unlike numbers its first so many have -/
def sp_line_of (K : PySem.W.Frag) : Sp := fun vs H Q _ => ∃ (a : Addr) (ns : List Int), vs = [.ref a] ∧ SqL K H a (ns.map V.int) ∧ ns.length ≤ 1000 ∧ ∀ p H', H' p = some (.lst ((lineW ns 0).map V.int)) → Same H H' → H p = none → Q (.ref p) H'
section
variable {P : Program} {w : World} {K : PySem.W.Frag} {mg : Str → Option Value} {base : Heap} {A : Adr}
theorem ok_line_of (T : Txt K mg A) : FnOk P w K mg base CX0 1 A.f_line_of A.d_line_of ["row"] (sp_line_of K) := by
  refine T.F_line_of.ok sc_line_of (fun vs H Q E h => ?_) (fun cdv Ar outer s H vs Q E hr h => ?_)
  · obtain ⟨a, ns, rfl, _⟩ := h
    rfl
  · obtain ⟨a, ns, rfl, ha, hl, q⟩ := h
    refine ⟨_, (pss_cons (ps_set (i := 1) sc_line_of.nd rfl (Or.inl rfl) pe_dnewK)
    (pss_cons (ps_set (i := 2) sc_line_of.nd rfl (Or.inl rfl) (pe_lst (pa_cons pe_int pa_nil)))
    (pss_cons (ps_for PassesOwn.never (by rfl) (pi_list (pv 0)) (pg_name (i := 3) sc_line_of.nd rfl (Or.inl rfl)) (pss_cons (ps_dput (hu_of hr) (pv 1) (pv 3) pe_bl rfl)
    (pss_one (ps_expr (pe_bm PySem.F.plainAttrs_list PySem.F.slot_list_append PySem.F.type_list_append mt_append (pv 2) (pa_cons (Ur.pe_b1 call_lenD (by rfl) T.m_len (by decide +kernel) (pv 1)) pa_nil))))))
    (pss_one (ps_ret (pv 2)))))), ?_⟩
    tb_start
    intro m nm
    tb_start
    intro l nl
    have hml : m ≠ l := by kcj_m
    tb_start
    refine for_ints (ns := ns) (fun k σ H' => Iv (∃ (u3 : Option V) (kvs : List (Key × V)), σ = [some (.ref a), some (.ref m), some (.ref l), u3] ∧ H' m = some (.dK kvs) ∧ Met kvs (ns.take k) ∧ H' l = some (.lst (((lineW ns 0).take (k + 1)).map V.int)) ∧ Same H H')) ?i0 ?il ?is ?id
    case i0 =>
      refine ⟨_, [], rfl, by kct_strs, Met.nil, lst_cast (by kct_strs) ?_, by kcj_in⟩
      rw [take_snoc (lineW_get (by omega)), Nat.add_zero, wunN_none]
      rfl
    case il =>
      rintro k σ H' hk ⟨u3, kvs, rfl, em, hv, el, s2⟩
      exact s2.seq ha
    case is =>
      rintro k x σ H' hk ⟨u3, kvs, rfl, em, hv, el, s2⟩
      have hk2 : k < ns.length := (List.getElem?_eq_some_iff.mp hk).1
      have hul := ulen_le (ns.take k)
      have hvl := hv.len
      rw [List.length_take] at hul
      have hll : ((lineW ns 0).take (k + 1)).length ≤ 1001 := by rw [List.length_take, lineW_len]; omega
      tb_start
      have hv' := hv.put x (.bl true)
      rw [← take_snoc hk] at hv'
      refine ⟨_, _, rfl, by kct_strs, hv', lst_cast (by kct_strs) ?_, by kcj_in⟩
      have e1 : (lineW ns 0).take (k + 1 + 1) = (lineW ns 0).take (k + 1) ++ [((ulen (ns.take (k + 1)) : Nat) : Int)] := by
        rw [take_snoc (lineW_get (k := k + 1) (by omega))]
        show _ ++ [((ulen (ns.take (0 + (k + 1) - 0)) : Nat) : Int)] = _
        rw [show 0 + (k + 1) - 0 = k + 1 by omega]
      rw [e1, hv'.len, List.map_append (l₁ := (lineW ns 0).take (k + 1))]
    case id =>
      rintro σ H' ⟨u3, kvs, rfl, em, hv, el, s2⟩
      have el2 : H' l = some (.lst ((lineW ns 0).map V.int)) := lst_cast el (by rw [List.take_of_length_le (by rw [lineW_len]; omega)])
      tb_start
      exact q l _ el2 s2 (by cc_off)
end
end Ur
namespace Ur
open PySem L2
/-- the table of a row: new lists -/
def sp_table_of (K : PySem.W.Frag) : Sp := fun vs H Q _ => ∃ (a : Addr) (ns : List Int), vs = [.ref a] ∧ SqL K H a (ns.map V.int) ∧ ns.length ≤ 1000 ∧ ∀ p (ls : List Addr) H', H' p = some (.lst (ls.map V.ref)) → RowsF H' ls (ns.length + 1) (lineW ns) → (∀ q ∈ ls, H q = none ∧ q ≠ p) → ls.Nodup → Same H H' → H p = none → Q (.ref p) H'
section
variable {P : Program} {w : World} {K : PySem.W.Frag} {mg : Str → Option Value} {base : Heap} {A : Adr}
theorem ok_table_of (T : Txt K mg A) : FnOk P w K mg base CX0 2 A.f_table_of A.d_table_of ["row"] (sp_table_of K) := by
  have G_line_of := ok_line_of (P := P) (w := w) (base := base) T
  refine T.F_table_of.ok sc_table_of (fun vs H Q E h => ?_) (fun cdv Ar outer s H vs Q E hr h => ?_)
  · obtain ⟨a, ns, rfl, _⟩ := h
    rfl
  · obtain ⟨a, ns, rfl, ha, hl, q⟩ := h
    refine ⟨_, (pss_one (ps_ret (pe_lc (own := [("first", 1)]) (g := gName 1) (by rfl) sc_table_of.nd (pi_range1 (by rfl) T.m_range (pa_cons (pe_op op_add (Ur.pe_b1 (Ur.call_lenIK (K := K) rfl) (by rfl) T.m_len (by decide +kernel) (pv 0)) pe_int) pa_nil)) (blkOk_by (own := [("first", 1)]) (N := ["row", "first"]) (by kernel_rfl)) (fun _ _ _ _ _ => pg_name (i := 1) sc_table_of.nd rfl (Or.inl rfl)) (fun _ _ _ _ _ => pts_nil) (fun _ _ _ _ _ => (pe_call G_line_of (hr.mono (by decide)) (by rfl) T.g_line_of T.F_line_of.kp T.b_line_of .nil pass0 (pa_cons (pe_slice (Ur.sl_listK (K := K) rfl) (pv 0) (po_some (pv 1)) po_none) pa_nil)))))), ?_⟩
    tb_start
    intro D nD
    refine lc_rngL (lineW ns) (by omega) nD (fun _ => rfl) ?ce ?cd
    case ce =>
      intro k H1 hk s1 Q2 q2
      have ha1 := s1.seq ha
      tb_start
      intro c nc
      have ecut : (cutV (ns.map V.int) (some (0 + (k : Int))) none) = (ns.drop k).map V.int := by
        rw [cutI_from ns (by omega), show ((0 : Int) + (k : Int)).toNat = k by omega]
      rw [ecut]
      tb_start
      intro p H2 e2 s2 n2
      rw [lineW_drop (by omega)] at e2
      exact q2 p _ (by kcj_in) e2 (by cc_off)
    case cd =>
      intro H1 qs s1 e1 r f nd
      exact q D qs _ e1 (r.congr fun _ _ => rfl) f nd s1 nD
end
end Ur
namespace Ur
open PySem L2
/-- the plain row whose table a thing is; others are refused -/
def sp_row_of_table (K : PySem.W.Frag) (C : Addr) : Sp := fun vs H Q E => ∃ (L : Addr → Prop) (v : V), vs = [v] ∧ TT L H v ∧ (∀ p ls, v = .ref p → H p = some (.lst ls) → ls.length ≤ 1000) ∧ (∀ r : List Int, IsTab H v r → ∀ q H', H' q = some (.lst ((plainP r).map V.int)) → Same H H' → H q = none → Q (.ref q) H') ∧ ((¬ ∃ r : List Int, IsTab H v r) → ∀ H', Same H H' → E (.ref C) none H')
section
variable {P : Program} {w : World} {K : PySem.W.Frag} {mg : Str → Option Value} {base : Heap} {A : Adr}
theorem ok_row_of_table (T : Txt K mg A) : FnOk P w K mg base (L2.CX P w) 4 A.f_row_of_table A.d_row_of_table ["thing"] (sp_row_of_table K A.c_NoTable) := by
  have G_are_lasts := ok_are_lasts (P := P) (w := w) (base := base) T
  have G_is_shaped := ok_is_shaped (P := P) (w := w) (base := base) T
  have G_lasts_by := ok_lasts_by (P := P) (w := w) (base := base) T
  have G_row_of := ok_row_of (P := P) (w := w) (base := base) T
  have G_table_of := ok_table_of (P := P) (w := w) (base := base) T
  refine T.F_row_of_table.okX sc_row_of_table (fun vs H Q E h => ?_) (fun cdv Ar outer s H vs Q E hr h => ?_)
  · obtain ⟨L, v, rfl, _⟩ := h
    rfl
  · obtain ⟨L, v, rfl, ht, hlen, qy, qn⟩ := h
    obtain ⟨b, hb⟩ := ShB.ex H v
    refine ⟨_, (pss_cons (ps_if (pt_not (pt_val (pe_call G_is_shaped (hr.mono (by decide)) (by rfl) T.g_is_shaped T.F_is_shaped.kp T.b_is_shaped .nil pass0 (pa_cons (pv 0) pa_nil)))) (pss_one (ps_raise rfl (takes_of rfl rfl rfl rfl) (pmk_own PySem.F.excBase_ValueError T.x_NoTable T.g_NoTable T.k_NoTable (raises_own T.b_NoTable T.t_NoTable) (by exact rfl)))) pss_nil)
    (pss_cons (ps_set (i := 1) sc_row_of_table.nd rfl (Or.inl rfl) (pe_call G_lasts_by (hr.mono (by decide)) (by rfl) T.g_lasts_by T.F_lasts_by.kp T.b_lasts_by .nil pass0 (pa_cons (pv 0) pa_nil)))
    (pss_cons (ps_if (pt_not (pt_val (pe_call G_are_lasts (hr.mono (by decide)) (by rfl) T.g_are_lasts T.F_are_lasts.kp T.b_are_lasts .nil pass0 (pa_cons (pv 1) pa_nil)))) (pss_one (ps_raise rfl (takes_of rfl rfl rfl rfl) (pmk_own PySem.F.excBase_ValueError T.x_NoTable T.g_NoTable T.k_NoTable (raises_own T.b_NoTable T.t_NoTable) (by exact rfl)))) pss_nil)
    (pss_cons (ps_set (i := 2) sc_row_of_table.nd rfl (Or.inl rfl) (pe_callS G_row_of (hr.mono (by decide)) (by rfl) T.g_row_of T.F_row_of.kp T.b_row_of (fun σ => passAt (takes_of rfl rfl rfl rfl) σ) (pa_cons (pv 1) pa_nil)))
    (pss_cons (ps_if (pt_cmpR (Ur.op_neDK (K := K) rfl hr.units) (pe_call G_table_of (hr.mono (by decide)) (by rfl) T.g_table_of T.F_table_of.kp T.b_table_of .nil pass0 (pa_cons (pv 2) pa_nil)) (pv 0) (nomark _)) (pss_one (ps_raise rfl (takes_of rfl rfl rfl rfl) (pmk_own PySem.F.excBase_ValueError T.x_NoTable T.g_NoTable T.k_NoTable (raises_own T.b_NoTable T.t_NoTable) (by exact rfl)))) pss_nil)
    (pss_one (ps_ret (pv 2)))))))), ?_⟩
    cases b with
    | false =>
      have hq := qn fun ⟨r, z⟩ => by have := hb.mpr z.sh; cases this
      tb_start
      intro H1 s1
      tb_start
      exact hq _ s1
    | true =>
      obtain ⟨t, ls, n, F, rfl, et, rw0, hF⟩ := (hb.mp rfl).rows
      have hn : n ≤ 1000 := by
        have := hlen t _ rfl et
        rw [List.length_map, rw0.len] at this
        omega
      tb_start
      intro H1 s1
      have et1 := s1 _ _ et
      have r1 := rw0.same s1
      tb_start
      intro p2 H2 e2 s2 n2
      have et2 := s2 _ _ et1
      have r2 := r1.same s2
      have s02 := s1.trans s2
      have np2 : H p2 = none := s1.free n2
      clear et1 r1 s1 s2 n2
      have t2 : Th Bar0 H2 (.ref p2) := .lst e2 (fun _ z => z.elim) (by rw [List.length_map, lbv_len]; omega) (.ints _)
      obtain ⟨b2, hb2⟩ := LasB.ex H2 (.ref p2)
      tb_start
      intro H3 s3
      have et3 := s3 _ _ et2
      have r3 := r2.same s3
      have s03 := s02.trans s3
      have e3 := s3 _ _ e2
      have t3 := t2.same s3
      have hb3 := hb2.same t2.kind s3
      clear et2 r2 s02 s3
      cases b2 with
      | false =>
        have hq := qn fun ⟨r, p, ls', z, e', rr⟩ => by
          cases z
          rw [et] at e'
          have := refs_inj' e'
          subst this
          have hl1 := rw0.len
          have hl2 := rr.len
          have hrl : r.length = n := by omega
          have hFr : ∀ k, k < n + 1 → F k = lineW r k := fun k hk => by
            have g := List.getElem?_eq_getElem (l := ls) (i := k) (by omega)
            have x1 := rw0.row k _ g
            have x2 := rr.row k _ g
            rw [x1] at x2
            injection x2 with x2
            injection x2 with x2
            exact (List.map_inj_right (fun _ _ z => by injection z)).mp x2
          have hlb : lbv F n = lastP r := by
            rw [← lbv_line r, hrl]
            unfold lbv
            refine List.map_congr_left fun i hi => ?_
            have hi2 := List.mem_range.mp hi
            have e : ∀ k ∈ List.range (i + 1), decide ((F k).getD (i - k) 0 = (F k).getD (i - k + 1) 0) = decide ((lineW r k).getD (i - k) 0 = (lineW r k).getD (i - k + 1) 0) := fun k hk => by
              rw [hFr k (by have := List.mem_range.mp hk; omega)]
            rw [List.filter_congr e]
          rw [hlb] at e2
          exact hb2.notGood e2
        tb_start
        exact hq _ s03
      | true =>
        obtain ⟨p', r, z, er⟩ := hb3.row
        cases z
        have hlb : lbv F n = lastP r := by
          rw [e3] at er
          injection er with er
          injection er with er
          exact (List.map_inj_right (fun _ _ z => by injection z)).mp er
        have hrl : r.length = n := by
          have := congrArg List.length hlb
          rw [lbv_len, lastP_len] at this
          exact this.symm
        tb_start
        · intro z; exact Bool.noConfusion z
        intro p3 r' hv3 hp3 p4 H4 e4 s4 n4
        obtain rfl : p2 = p3 := by injection hv3
        have hpr : plainP r' = plainP r := by
          rw [er] at hp3
          injection hp3 with hp3
          injection hp3 with hp3
          exact plain_of_lasts ((List.map_inj_right (fun _ _ z => by injection z)).mp hp3.symm)
        rw [hpr] at e4
        have et4 := s4 _ _ et3
        have r4 := r3.same s4
        have s04 := s03.trans s4
        have np4 : H p4 = none := s03.free n4
        have hpl := plainP_len r
        clear et3 r3 s03 e3 s4 n4 t3 hb3 er hp3 hv3
        tb_start
        intro p5 ls5 H5 e5 r5 f5 nd5 s5 n5
        have et5 := s5 _ _ et4
        have r45 := r4.same s5
        have e45 := s5 _ _ e4
        have r5' : RowsF H5 ls5 (n + 1) (lineW r) := by
          have := r5.congr fun k _ => lineW_plain r k
          rwa [hpl, hrl] at this
        tb_start
        refine rNe_rows2 (SqL.of e5) (SqL.of et5) r5' r45 ?_
        by_cases hEq : ∀ k, k < n + 1 → lineW r k = F k
        · rw [decide_eq_true hEq]
          tb_start
          refine qy r ⟨t, ls, rfl, et, ?_⟩ p4 _ e45 (s04.trans s5) np4
          rw [hrl]
          exact rw0.congr fun k hk => (hEq k hk).symm
        · rw [decide_eq_false hEq]
          have hq := qn fun ⟨s, p, ls', z, e', rr⟩ => hEq fun k hk => by
            cases z
            rw [et] at e'
            have := refs_inj' e'
            subst this
            have hl1 := rw0.len
            have hl2 := rr.len
            have hsl : s.length = n := by omega
            have hFs : ∀ k, k < n + 1 → F k = lineW s k := fun k hk => by
              have g := List.getElem?_eq_getElem (l := ls) (i := k) (by omega)
              have x1 := rw0.row k _ g
              have x2 := rr.row k _ g
              rw [x1] at x2
              injection x2 with x2
              injection x2 with x2
              exact (List.map_inj_right (fun _ _ z => by injection z)).mp x2
            have hls : lastP r = lastP s := by
              rw [← hlb, ← lbv_line s, hsl]
              unfold lbv
              refine List.map_congr_left fun i hi => ?_
              have hi2 := List.mem_range.mp hi
              have e : ∀ k ∈ List.range (i + 1), decide ((F k).getD (i - k) 0 = (F k).getD (i - k + 1) 0) = decide ((lineW s k).getD (i - k) 0 = (lineW s k).getD (i - k + 1) 0) := fun k hk => by
                rw [hFs k (by have := List.mem_range.mp hk; omega)]
              rw [List.filter_congr e]
            have hps := plain_of_lasts hls
            rw [hFs k hk, ← lineW_plain r, ← lineW_plain s, hps]
          tb_start
          exact hq _ (s04.trans s5)
end
end Ur
namespace Ur
open PySem L2
/-- the told row, or that it is refused rightly -/
def sp__law_asked (K : PySem.W.Frag) : Sp := fun vs H Q _ => ∃ (L : Addr → Prop) (v : V), vs = [v] ∧ TT L H v ∧ (∀ p ls, v = .ref p → H p = some (.lst ls) → ls.length ≤ 1000) ∧ ((∃ r : List Int, IsTab H v r ∧ ∀ q H', H' q = some (.lst ((plainP r).map V.int)) → Same H H' → H q = none → Q (.ref q) H') ∨ ((¬ ∃ r : List Int, IsTab H v r) ∧ ∀ H', Same H H' → Q (.bl true) H'))
section
variable {P : Program} {w : World} {K : PySem.W.Frag} {mg : Str → Option Value} {base : Heap} {A : Adr}
theorem ok__law_asked (T : Txt K mg A) : FnOk P w K mg base CX0 5 A.f__law_asked A.d__law_asked ["thing"] (sp__law_asked K) := by
  have G_row_of_table := ok_row_of_table (P := P) (w := w) (base := base) T
  refine T.F__law_asked.ok sc__law_asked (fun vs H Q E h => ?_) (fun cdv Ar outer s H vs Q E hr h => ?_)
  · obtain ⟨L, v, rfl, _⟩ := h
    rfl
  · obtain ⟨L, v, rfl, ht, hlen, q⟩ := h
    refine ⟨_, (pss_cons (ps_set (i := 1) sc__law_asked.nd rfl (Or.inl rfl) pe_non)
    (pss_cons (ps_set (i := 2) sc__law_asked.nd rfl (Or.inl rfl) (pe_lst pa_nil))
    (pss_cons (ps_try_as (i := 3) rfl rfl sc__law_asked.nd rfl rfl ⟨rfl, by decide, .inl T.g_RowError⟩ takes0 (fun W pn xe tk po => (pss_one (ps_set (i := 1) sc__law_asked.nd rfl (Or.inl rfl) (pe_callS G_row_of_table (hr.mono (by decide)) (by rfl) T.g_row_of_table T.F_row_of_table.kp T.b_row_of_table (fun σ => passAt tk σ) (pa_cons (pv 0) pa_nil))))) (fun ea oe cls d pn hz hf => (pss_cons (ps_set (i := 2) sc__law_asked.nd rfl (Or.inl rfl) (pe_lst (pa_cons (Ur.pe_b2 (Ur.call_isX (K := K) (by rfl) (a := ea) hz hf (by exact List.mem_cons_self)) (by rfl) T.m_isinstance (by decide +kernel) (pv 3) (pe_glob (v := .ref A.c_NoTable) (by rfl) T.g_NoTable rfl)) (pa_cons (Ur.pe_b2 (Ur.call_isX (K := K) (by rfl) (a := ea) hz hf (by exact List.mem_cons_self)) (by rfl) T.m_isinstance (by decide +kernel) (pv 3) (pe_bltn (v := .ty "ValueError") (by rfl) T.m_ValueError (by decide +kernel) rfl)) pa_nil))))
    (pss_one (ps_expr (Ur.pe_bmK (K := K) (by rfl) PySem.F.plainAttrs_list PySem.F.slot_list_append PySem.F.type_list_append mt_append (pv 2) (pa_cons (Ur.pe_b2 (Ur.call_isX (K := K) (by rfl) (a := ea) hz hf (by exact List.mem_cons_self)) (by rfl) T.m_isinstance (by decide +kernel) (pv 3) (pe_tup (pa_cons (pe_glob (v := .ref A.c_NoCommand) (by rfl) T.g_NoCommand rfl) (pa_cons (pe_glob (v := .ref A.c_NoNeeds) (by rfl) T.g_NoNeeds rfl) (pa_cons (pe_glob (v := .ref A.c_NoPlace) (by rfl) T.g_NoPlace rfl) (pa_cons (pe_glob (v := .ref A.c_NoRow) (by rfl) T.g_NoRow rfl) (pa_cons (pe_glob (v := .ref A.c_NoWindow) (by rfl) T.g_NoWindow rfl) pa_nil))))))) pa_nil)))))))
    (pss_cons (ps_if (pt_cmpR (Ur.op_neDK (K := K) rfl hr.units) (pv 2) (pe_lst pa_nil) (nomark _)) (pss_one (ps_ret (pe_cmpR (Ur.op_eqDK (K := K) rfl hr.units) (pv 2) (pe_lst (pa_cons pe_bl (pa_cons pe_bl (pa_cons pe_bl pa_nil)))) (nomark _)))) pss_nil)
    (pss_one (ps_ret (pv 1))))))), ?_⟩
    have hE := T.E_NoTable
    have q1 := T.q_NoTable_NoTable
    have q2 := T.q_NoTable_ValueError
    have q3 : NoneOf K A.c_NoTable [A.c_NoCommand, A.c_NoNeeds, A.c_NoPlace, A.c_NoRow, A.c_NoWindow] := .cons T.q_NoTable_NoCommand (.cons T.q_NoTable_NoNeeds (.cons T.q_NoTable_NoPlace (.cons T.q_NoTable_NoRow (.cons T.q_NoTable_NoWindow .nil))))
    tb_start
    intro pk nk
    have s1 : Same H (upd H pk (.lst [])) := same_new nk
    have t1 := ht.same s1
    have len1 : ∀ p ls, v = .ref p → (upd H pk (.lst [])) p = some (.lst ls) → ls.length ≤ 1000 := fun p ls e h => by
      subst e
      obtain ⟨o, ho⟩ := ht.kind.some
      have z := s1 _ _ ho
      rw [h] at z
      cases z
      exact hlen p ls rfl ho
    have ek : (upd H pk (.lst [])) pk = some (.lst []) := upd_same
    have bk := fun r => IsTab.back (r := r) ht s1
    generalize (upd H pk (.lst [])) = H1 at *
    tb_start
    · intro hno H2 s2
      refine ⟨true, T.m_NoTable_RowError, fun _ ea nea => ?_, fun z => nomatch z⟩
      have hq : ∀ H', Same H H' → Q (.bl true) H' := by
        rcases q with ⟨r, hr, _⟩ | ⟨_, q⟩
        · exact (hno ⟨r, hr.same s1⟩).elim
        · exact q
      tb_start
      intro p2 np2
      tb_start
      intro p3 np3
      have h23 : p2 ≠ p3 := by kcj_m
      tb_start
      intro p4 np4
      have h24 : p2 ≠ p4 := by kcj_m
      refine rNe_kinds3 (by kct_strs) upd_same ?_
      tb_start
      intro p5 np5
      have h25 : p2 ≠ p5 := by kcj_m
      tb_start
      exact hq _ (by kcj_in)
    · intro r hr p2 H2 e2 s2 n2
      have hq : ∀ q H', H' q = some (.lst ((plainP r).map V.int)) → Same H H' → H q = none → Q (.ref q) H' := by
        rcases q with ⟨r', hr', q⟩ | ⟨hno, _⟩
        · rw [((hr'.same s1).plain hr).1] at q
          exact q
        · exact (hno ⟨r, bk r hr⟩).elim
      have ek2 := s2 _ _ ek
      have np : H p2 = none := s1.free n2
      tb_start
      intro p3 np3
      have s3 : Same H2 (upd H2 p3 (.lst [])) := same_new np3
      tb_start
      refine rNe_nil2 (s3 _ _ ek2) upd_same ?_
      tb_start
      exact hq p2 _ (s3 _ _ e2) (s1.trans (s2.trans s3)) np
end
end Ur
namespace Ur
open PySem L2
/-- whether a thing is a list so long -/
def sp__law_is_list (K : PySem.W.Frag) : Sp := fun vs H Q _ => ∃ (v : V) (n : Int), vs = [v, .int n] ∧ Kind H v ∧ ((∃ p xs, v = .ref p ∧ H p = some (.lst xs) ∧ xs.length ≤ 2000 ∧ Q (.bl (decide ((xs.length : Int) = n))) H) ∨ ((∀ p xs, v = .ref p → H p ≠ some (.lst xs)) ∧ Q (.bl false) H))
section
variable {P : Program} {w : World} {K : PySem.W.Frag} {mg : Str → Option Value} {base : Heap} {A : Adr}
theorem ok__law_is_list (T : Txt K mg A) : FnOk P w K mg base CX0 1 A.f__law_is_list A.d__law_is_list ["thing", "size"] (sp__law_is_list K) := by
  refine T.F__law_is_list.ok sc__law_is_list (fun vs H Q E h => ?_) (fun cdv Ar outer s H vs Q E hr h => ?_)
  · obtain ⟨v, n, rfl, _⟩ := h
    rfl
  · obtain ⟨v, n, rfl, hk, q⟩ := h
    refine ⟨_, (pss_one (ps_ret (pe_and (Ur.pe_b2 (Ur.call_isiK (K := K) rfl) (by rfl) T.m_isinstance (by decide +kernel) (pv 0) (pe_bltn (v := .ty "list") (by rfl) T.m_list (by decide +kernel) rfl)) (pe_one (pe_cmpR op_eq (Ur.pe_b1 (Ur.call_lenIK (K := K) rfl) (by rfl) T.m_len (by decide +kernel) (pv 0)) (pv 1) (nomark _)))))), ?_⟩
    rcases q with ⟨p, xs, rfl, e, hl, q⟩ | ⟨hn, q⟩
    · tb_start
      exact qbv q (decide_eq_decide.mpr ⟨fun h => by injection h, fun h => by rw [h]⟩)
    · rcases Kind.isList (K := K) hk with ⟨p, xs, rfl, e⟩ | ⟨_, t, ty, kb⟩
      · exact (hn p xs rfl e).elim
      · tb_start
        exact q
end
end Ur
namespace Ur
open PySem L2
/-- the plain row, a new list -/
def sp__law_plain (K : PySem.W.Frag) : Sp := fun vs H Q _ => ∃ (a : Addr) (ns : List Int), vs = [.ref a] ∧ SqL K H a (ns.map V.int) ∧ ns.length ≤ 1000 ∧ ∀ p H', H' p = some (.lst ((plainP ns).map V.int)) → Same H H' → H p = none → Q (.ref p) H'
section
variable {P : Program} {w : World} {K : PySem.W.Frag} {mg : Str → Option Value} {base : Heap} {A : Adr}
theorem ok__law_plain (T : Txt K mg A) : FnOk P w K mg base CX0 1 A.f__law_plain A.d__law_plain ["row"] (sp__law_plain K) := by
  refine T.F__law_plain.ok sc__law_plain (fun vs H Q E h => ?_) (fun cdv Ar outer s H vs Q E hr h => ?_)
  · obtain ⟨a, ns, rfl, _⟩ := h
    rfl
  · obtain ⟨a, ns, rfl, ha, hl, q⟩ := h
    have hpl := plainP_len ns
    refine ⟨_, (pss_cons (ps_set (i := 1) sc__law_plain.nd rfl (Or.inl rfl) pe_dnewK)
    (pss_cons (ps_set (i := 2) sc__law_plain.nd rfl (Or.inl rfl) (pe_lst pa_nil))
    (pss_cons (ps_for PassesOwn.never (by rfl) (pi_list (pv 0)) (pg_name (i := 3) sc__law_plain.nd rfl (Or.inl rfl)) (pss_cons (ps_dput (hu_of hr) (pv 1) (pv 3) (pe_dget2 (hu_of hr) (pv 1) (pv 3) (Ur.pe_b1 call_lenD (by rfl) T.m_len (by decide +kernel) (pv 1)) ⟨rfl, rfl, rfl, rfl⟩) rfl)
    (pss_one (ps_expr (pe_bm PySem.F.plainAttrs_list PySem.F.slot_list_append PySem.F.type_list_append mt_append (pv 2) (pa_cons (pe_dget (hu_of hr) (pv 1) (pv 3) (fun _ _ => rfl)) pa_nil))))))
    (pss_one (ps_ret (pv 2)))))), ?_⟩
    tb_start
    intro m nm
    tb_start
    intro D nD
    tb_start
    refine for_list (xs := ns.map V.int) (fun i σ H' => Iv (∃ (kvs : List (Key × V)) (x : Option V), σ = [some (.ref a), some (.ref m), some (.ref D), x] ∧ H' m = some (.dK kvs) ∧ H' D = some (.lst (((plainP ns).take i).map V.int)) ∧ Same H H' ∧ kvs.length = ulen (ns.take i) ∧ ∀ z : Int, valV kvs (Sum.inl z) = if z ∈ ns.take i then some (.int (plainAt ns z : Nat)) else none)) ?h0 ?hl ?hs ?hd
    case h0 => exact ⟨[], _, rfl, by kct_strs, upd_same, by kcj_in, rfl, fun z => rfl⟩
    case hl =>
      rintro i σ H' hi ⟨kvs, x, rfl, hm, hD, s, hk, hv⟩
      kct_strs
    case hd =>
      rintro σ H' ⟨kvs, x, rfl, hm, hD, s, hk, hv⟩
      rw [List.length_map, ← hpl, List.take_length] at hD
      tb_start
      exact q _ _ hD s (by cc_off)
    case hs =>
      rintro i x σ H' hx ⟨kvs, u, rfl, hm, hD, s, hk, hv⟩
      obtain ⟨n, hn, rfl⟩ := iv_get hx
      have hi := (List.getElem?_eq_some_iff.mp hn).1
      have hku := ulen_le (ns.take i)
      rw [List.length_take] at hku
      have hpt : (plainP ns)[i]? = some (plainAt ns n : Int) := by
        unfold plainP
        rw [List.getElem?_map, hn]; rfl
      have hv0 := hv n
      have hv' : (valV kvs (Sum.inl n)).getD (.int (kvs.length : Nat)) = .int (plainAt ns n : Nat) := by
        rw [hv0]
        by_cases hin : n ∈ ns.take i
        · rw [if_pos hin]; rfl
        · rw [if_neg hin]
          have hid : ns.idxOf n = i := idx_first hn hin
          have hpa : plainAt ns n = kvs.length := by unfold plainAt; rw [hid, hk]
          rw [hpa]; rfl
      have hput : kvs.length = ulen (ns.take i) → (putK kvs (Sum.inl n) (.int (plainAt ns n : Nat))).length = ulen (ns.take (i + 1)) := fun _ => by
        by_cases hin : n ∈ ns.take i
        · rw [putK_same (by rw [hv0, if_pos hin]; rfl), take_snoc hn, ulen_snoc, if_pos hin]; exact hk
        · rw [putK_len (by rw [hv0, if_neg hin]), take_snoc hn, ulen_snoc, if_neg hin, hk]
      have neD : D ≠ m := by kcj_m
      have hd : DGet (upd H' m (.dK (putK kvs (Sum.inl n) ((valV kvs (Sum.inl n)).getD (.int (kvs.length : Nat)))))) m (.int n) (some ((valV kvs (Sum.inl n)).getD (.int (kvs.length : Nat)))) := dget_some upd_same (by rw [val_put, if_pos rfl])
      tb_start
      rw [hv']
      refine ⟨_, _, rfl, by kct_strs, lst_cast (by kct_strs) ?_, by kcj_in, hput hk, fun z => ?_⟩
      · rw [take_snoc hpt, List.map_append]
      · rw [val_put, hv z, take_snoc hn]
        by_cases hzn : z = n
        · rw [if_pos hzn, if_pos (List.mem_append.mpr (Or.inr (List.mem_singleton.mpr hzn))), hzn]
        · rw [if_neg hzn]
          by_cases hz : z ∈ ns.take i
          · rw [if_pos hz, if_pos (List.mem_append.mpr (Or.inl hz))]
          · have hz2 : ¬ z ∈ ns.take i ++ [n] := fun k => by
              rcases List.mem_append.mp k with k | k
              · exact hz k
              · exact hzn (List.mem_singleton.mp k)
            rw [if_neg hz, if_neg hz2]
end
end Ur
namespace Ur
open PySem L2
/-- the plain row whose table a thing is, or None -/
def sp__law_row_of (K : PySem.W.Frag) : Sp := fun vs H Q _ => ∃ (L : Addr → Prop) (v : V), vs = [v] ∧ TT L H v ∧ (∀ p ls, v = .ref p → H p = some (.lst ls) → ls.length ≤ 1000) ∧ ((∃ r : List Int, IsTab H v r ∧ ∀ q H', H' q = some (.lst ((plainP r).map V.int)) → Same H H' → H q = none → Q (.ref q) H') ∨ ((¬ ∃ r : List Int, IsTab H v r) ∧ ∀ H', Same H H' → Q .non H'))
section
variable {P : Program} {w : World} {K : PySem.W.Frag} {mg : Str → Option Value} {base : Heap} {A : Adr}
theorem ok__law_row_of (T : Txt K mg A) : FnOk P w K mg base CX0 2 A.f__law_row_of A.d__law_row_of ["thing"] (sp__law_row_of K) := by
  have G__law_is_list := ok__law_is_list (P := P) (w := w) (base := base) T
  have G__law_lines := ok__law_lines (P := P) (w := w) (base := base) T
  have G__law_plain := ok__law_plain (P := P) (w := w) (base := base) T
  refine T.F__law_row_of.ok sc__law_row_of (fun vs H Q E h => ?_) (fun cdv Ar outer s H vs Q E hr h => ?_)
  · obtain ⟨L, v, rfl, _⟩ := h
    rfl
  · obtain ⟨L, v, rfl, ht, hlen, q⟩ := h
    refine ⟨_, (pss_cons (ps_if (PW.pt (pw_or (pt_not (pt_val (Ur.pe_b2 (Ur.call_isiK (K := K) rfl) (by rfl) T.m_isinstance (by decide +kernel) (pv 0) (pe_bltn (v := .ty "list") (by rfl) T.m_list (by decide +kernel) rfl)))) (pw_or1 (pt_cmpR op_eq (Ur.pe_b1 (Ur.call_lenIK (K := K) rfl) (by rfl) T.m_len (by decide +kernel) (pv 0)) pe_int (nomark _))))) (pss_one (ps_ret pe_non)) pss_nil)
    (pss_cons (ps_set (i := 1) sc__law_row_of.nd rfl (Or.inl rfl) (pe_op op_sub (Ur.pe_b1 (Ur.call_lenIK (K := K) rfl) (by rfl) T.m_len (by decide +kernel) (pv 0)) pe_int))
    (pss_cons (ps_for PassesOwn.never (by rfl) (pi_range1 (by rfl) T.m_range (pa_cons (pe_op op_add (pv 1) pe_int) pa_nil)) (pg_name (i := 2) sc__law_row_of.nd rfl (Or.inl rfl)) (pss_cons (ps_if (pt_not (pt_val (pe_call G__law_is_list (hr.mono (by decide)) (by rfl) T.g__law_is_list T.F__law_is_list.kp T.b__law_is_list .nil pass0 (pa_cons (pe_ix (Ur.ix_listK (K := K) rfl) (pv 0) (pv 2) (fun _ _ => rfl)) (pa_cons (pe_op op_sub (pe_op op_add (pv 1) pe_int) (pv 2)) pa_nil))))) (pss_one (ps_ret pe_non)) pss_nil)
    (pss_one (ps_if (pt_cmpR (Ur.op_neL (K := K) (by rfl) hr.units) (pe_lc (own := [("one", 6)]) (g := gName 6) (by rfl) sc__law_row_of.nd (pi_list (pe_ix (Ur.ix_listK (K := K) rfl) (pv 0) (pv 2) (fun _ _ => rfl))) (blkOk_by (own := [("one", 6)]) (N := ["thing", "many", "first", "row", "place", "name", "one"]) (by kernel_rfl)) (fun _ _ _ _ _ => pg_name (i := 6) sc__law_row_of.nd rfl (Or.inl rfl)) (fun _ _ _ _ _ => pts_one (PW.pt (pw_or (pt_not (pt_val (Ur.pe_b2 (Ur.call_isiK (K := K) rfl) (by rfl) T.m_isinstance (by decide +kernel) (pv 6) (pe_bltn (v := .ty "int") (by rfl) T.m_int (by decide +kernel) rfl)))) (pw_or1 (pt_val (Ur.pe_b2 (Ur.call_isiK (K := K) rfl) (by rfl) T.m_isinstance (by decide +kernel) (pv 6) (pe_bltn (v := .ty "bool") (by rfl) T.m_bool (by decide +kernel) rfl))))))) (fun _ _ _ _ _ => (pv 6))) (pe_lst pa_nil) (nomark _)) (pss_one (ps_ret pe_non)) pss_nil))))
    (pss_cons (ps_set (i := 3) sc__law_row_of.nd rfl (Or.inl rfl) (pe_lst pa_nil))
    (pss_cons (ps_for PassesOwn.never (by rfl) (pi_range1 (by rfl) T.m_range (pa_cons (pv 1) pa_nil)) (pg_name (i := 4) sc__law_row_of.nd rfl (Or.inl rfl)) (pss_cons (ps_set (i := 5) sc__law_row_of.nd rfl (Or.inl rfl) (Ur.pe_lenSetU (K := K) rfl (by rfl) T.m_len (by rfl) T.m_set (pv 3)))
    (pss_cons (ps_for PassesOwn.never (by rfl) (pi_range1 (by rfl) T.m_range (pa_cons (pv 4) pa_nil)) (pg_name (i := 2) sc__law_row_of.nd rfl (Or.inl rfl)) (pss_one (ps_if (pt_cmpR op_eq (pe_ix (Ur.ix_listK (K := K) rfl) (pe_ix (Ur.ix_listK (K := K) rfl) (pv 0) (pv 2) (fun _ _ => rfl)) (pe_op op_add (pe_op op_sub (pv 4) (pv 2)) pe_int) (fun _ _ => rfl)) (pe_ix (Ur.ix_listK (K := K) rfl) (pe_ix (Ur.ix_listK (K := K) rfl) (pv 0) (pv 2) (fun _ _ => rfl)) (pe_op op_sub (pv 4) (pv 2)) (fun _ _ => rfl)) (nomark _)) (pss_one (ps_set (i := 5) sc__law_row_of.nd rfl (Or.inl rfl) (pe_ix (Ur.ix_listK (K := K) rfl) (pv 3) (pv 2) (fun _ _ => rfl)))) pss_nil)))
    (pss_one (ps_expr (pe_bm PySem.F.plainAttrs_list PySem.F.slot_list_append PySem.F.type_list_append mt_append (pv 3) (pa_cons (pv 5) pa_nil)))))))
    (pss_one (ps_ret (pe_ix (Ur.ix_listK (K := K) rfl) (pe_lst (pa_cons pe_non (pa_cons (pe_call G__law_plain (hr.mono (by decide)) (by rfl) T.g__law_plain T.F__law_plain.kp T.b__law_plain .nil pass0 (pa_cons (pv 3) pa_nil)) pa_nil))) (Ur.pe_t1 call_int1 (by rfl) T.m_int (by decide +kernel) (pe_cmpR (Ur.op_eqDK (K := K) rfl hr.units) (pe_call G__law_lines (hr.mono (by decide)) (by rfl) T.g__law_lines T.F__law_lines.kp T.b__law_lines .nil pass0 (pa_cons (pv 3) pa_nil)) (pv 0) (nomark _))) (fun _ _ => rfl))))))))), ?_⟩
    rcases Kind.isList (K := K) ht.kind with ⟨p, xs, rfl, e⟩ | ⟨hn, t, ty, kb⟩
    · obtain ⟨hlx, hx⟩ := ht.items p xs rfl e
      have hl1 := hlen p xs rfl e
      have qn : ¬ ShOk H (.ref p) → ∀ H', Same H H' → Q .non H' := fun n H' s => by
        rcases q with ⟨r, hr, _⟩ | ⟨_, q⟩
        · exact (n hr.sh).elim
        · exact q H' s
      by_cases h0 : xs = []
      · subst h0
        have hq := qn fun z => (z.at e).1 rfl
        tb_start
        exact hq _ (by kcj_in)
      have hpos : 0 < xs.length := List.length_pos_iff.mpr h0
      tb_start
      refine bri (fun h => absurd h (by omega)) (fun _ => ?_)
      tb_start
      refine for_range (fun i σ H' => Iv (∃ (u2 u3 u4 u5 u6 : Option V), σ = [some (.ref p), some (.int ((xs.length : Int) - 1)), u2, u3, u4, u5, u6] ∧ Same H H' ∧ ∀ j w, j < i → xs[j]? = some w → ShAt H xs j w)) ?h0 ?hs ?hd
      case h0 => exact ⟨_, _, _, _, _, rfl, by kcj_in, fun j w h => absurd h (Nat.not_lt_zero _)⟩
      case hs =>
        rintro i σ H' hi ⟨u2, u3, u4, u5, u6, rfl, s, hp⟩
        have hi : i < xs.length := by omega
        have hxi : xs[i]? = some xs[i] := List.getElem?_eq_getElem hi
        generalize xs[i] = x at hxi
        have hat : atI xs (0 + (i : Int)) = some x := by rw [show (0 : Int) + i = i by omega]; exact at_nat hxi
        have tx := hx x (List.mem_of_getElem? hxi)
        have tx' := tx.same s
        have e' := s _ _ e
        have ho : ¬ ShAt H xs i x → ∀ H', Same H H' → Q .non H' := fun n => qn fun z => n ((z.at e).2 i x hxi)
        rcases Kind.isList (K := K) tx.kind with ⟨l, ys, rfl, el0⟩ | ⟨hn, t, ty, kb⟩
        · obtain ⟨hly, hy⟩ := tx.items l ys rfl el0
          have el := s _ _ el0
          tb_start
          refine .inl ⟨l, ys, rfl, el, hly, ?_⟩
          by_cases hlen : ys.length = xs.length - i
          · rw [decide_eq_true (show (ys.length : Int) = _ by omega)]
            tb_start
            intro D nD
            refine lc_valsIf (xs := ys) (fun x => !isI x) (fun x => x) (by omega) (SqL.of el) nD (fun _ => rfl) ?ct ?ce ?cd
            case ct =>
              intro x H' hm s4 Q2 q2
              have kx := (hy.all x hm).1.same (s.trans s4)
              rcases kx with ⟨i, rfl⟩ | ⟨c, rfl⟩ | ⟨z, rfl⟩ | rfl | ⟨q, xs, rfl, hq⟩ | ⟨q, xs, rfl, hq⟩ | ⟨q, xs, rfl, hq⟩
              all_goals
                tb_start
                exact q2 _ (by kcj_in)
            case ce =>
              intro x H' hm _ s4 Q2 q2
              tb_start
              exact q2 _ (by kcj_in)
            case cd =>
              intro H1 s1 e1
              rw [List.map_id'] at e1
              tb_start
              intro p2 n2
              refine rNeL_nil (SqL.of ((same_new n2) _ _ e1)) (SqL.of upd_same) ?_
              cases hf : ys.filter (fun x => !isI x) with
              | cons y zs =>
                have hy : y ∈ ys.filter (fun x => !isI x) := by rw [hf]; exact List.mem_cons_self
                obtain ⟨hy1, hy2⟩ := List.mem_filter.mp hy
                have hq := ho fun ⟨q', ms, e1, e2, _⟩ => by
                  cases e1
                  rw [el0] at e2
                  cases e2
                  obtain ⟨m, _, rfl⟩ := List.mem_map.mp hy1
                  cases hy2
                tb_start
                exact hq _ (s.trans (by kcj_in))
              | nil =>
                have hall : ∀ x ∈ ys, ∃ n : Int, x = .int n := fun x hx => by
                  cases hi : isI x with
                  | true => exact isI_int hi
                  | false =>
                    have : x ∈ ys.filter (fun x => !isI x) := List.mem_filter.mpr ⟨hx, by rw [hi]; rfl⟩
                    rw [hf] at this
                    cases this
                obtain ⟨ms, rfl⟩ := ints_of hall
                tb_start
                refine ⟨_, _, _, _, _, rfl, s.trans (by kcj_in), fun j w hj hw => ?_⟩
                by_cases h : j < i
                · exact hp j w h hw
                · have : j = i := by omega
                  subst this
                  rw [hxi] at hw
                  cases hw
                  exact ⟨l, ms, rfl, el0, by rw [List.length_map] at hlen; exact hlen⟩
          · rw [decide_eq_false (show ¬ (ys.length : Int) = _ by omega)]
            have hq := ho fun ⟨q', ms, e1, e2, e3⟩ => by
              cases e1
              rw [el0] at e2
              cases e2
              exact hlen (by rw [List.length_map]; exact e3)
            tb_start
            exact hq _ s
        · have hn' : ∀ p xs, x = .ref p → H' p ≠ some (.lst xs) := fun l ys e2 h2 => by
            subst e2
            obtain ⟨o, ho2⟩ := tx.kind.some
            have z := s _ _ ho2
            rw [h2] at z
            cases z
            exact hn l ys rfl ho2
          have hk := tx'.kind
          have hq := ho fun ⟨q', ms, e1, e2, _⟩ => hn q' _ e1 e2
          clear ty tx'
          tb_start
          refine .inr ⟨hn', ?_⟩
          tb_start
          exact hq _ s
      case hd =>
        rintro σ H1 ⟨u2, u3, u4, u5, u6, rfl, s1, hp⟩
        have hsh : ShOk H (.ref p) := ⟨p, xs, rfl, e, h0, fun i x hx => hp i x (by have := (List.getElem?_eq_some_iff.mp hx).1; omega) hx⟩
        obtain ⟨p', ls, n, F, z, e2, rw0, hF⟩ := hsh.rows
        cases z
        rw [e] at e2
        injection e2 with e2
        injection e2 with e2
        subst e2
        have hls := rw0.len
        rw [List.length_map, hls] at hl1 ⊢
        clear hx hp hsh qn
        have e1 := s1 _ _ e
        have r1 := rw0.same s1
        tb_start
        intro pr nr
        have s2 : Same H (upd H1 pr (.lst [])) := s1.trans (same_new nr)
        tb_start
        refine for_range (fun i σ H' => Iv (∃ (u2 u4 u5 u6 : Option V), σ = [some (.ref p), some (.int (((n + 1 : Nat) : Int) - 1)), u2, some (.ref pr), u4, u5, u6] ∧ H' pr = some (.lst ((tabRow F i).map V.int)) ∧ Same H1 H')) ?r0 ?rs ?rd
        case r0 => exact ⟨_, _, _, _, rfl, upd_same, same_new nr⟩
        case rs =>
          rintro i σ H3 hi ⟨u2, u4, u5, u6, rfl, er, s3⟩
          have e3 := s3 _ _ e1
          have r3 := r1.same s3
          have hlr := tabRow_len F i
          tb_start
          refine for_range (fun j σ H' => Iv (∃ (u2 u6 : Option V), σ = [some (.ref p), some (.int (((n + 1 : Nat) : Int) - 1)), u2, some (.ref pr), some (.int (0 + (i : Int))), some (.int (nameT F (tabRow F i) i j)), u6] ∧ H' = H3)) ?i0 ?is ?id
          case i0 => exact ⟨_, _, by rw [show (nameT F (tabRow F i) i 0) = ((ulen (tabRow F i) : Nat) : Int) from rfl]; rfl, rfl⟩
          case is =>
            rintro j σ H4 hj ⟨u2, u6, rfl, rfl⟩
            have hj : j < i := by omega
            have hFj := hF j (by omega)
            obtain ⟨l, hl⟩ : ∃ l, ls[j]? = some l := ⟨_, List.getElem?_eq_getElem (by omega)⟩
            have el := r3.row j l hl
            have hns := nameT_succ F (tabRow F i) i j
            have hat : atI (ls.map V.ref) (0 + (j : Int)) = some (.ref l) := by
              rw [show (0 : Int) + j = j by omega]
              exact at_nat (by rw [List.getElem?_map, hl]; rfl)
            have h1 : atI ((F j).map V.int) (0 + (i : Int) - (0 + (j : Int)) + 1) = some (.int ((F j).getD (i - j + 1) 0)) := by
              rw [at_int' (by omega) (by omega), show (0 + (i : Int) - (0 + (j : Int)) + 1).toNat = i - j + 1 by omega]
            have h2 : atI ((F j).map V.int) (0 + (i : Int) - (0 + (j : Int))) = some (.int ((F j).getD (i - j) 0)) := by
              rw [at_int' (by omega) (by omega), show (0 + (i : Int) - (0 + (j : Int))).toNat = i - j by omega]
            have h3 : atI ((tabRow F i).map V.int) (0 + (j : Int)) = some (.int ((tabRow F i).getD j 0)) := by
              rw [at_int' (by omega) (by omega), show (0 + (j : Int)).toNat = j by omega]
            by_cases hc : (F j).getD (i - j + 1) 0 = (F j).getD (i - j) 0
            · rw [if_pos hc] at hns
              tb_start
              refine bri (fun _ => ?_) (fun h => absurd hc h)
              tb_start
              exact ⟨_, _, by rw [hns]; rfl, rfl⟩
            · rw [if_neg hc] at hns
              tb_start
              refine bri (fun h => absurd h hc) (fun _ => ?_)
              tb_start
              exact ⟨_, _, by rw [hns]; rfl, rfl⟩
          case id =>
            rintro σ H4 ⟨u2, u6, rfl, rfl⟩
            tb_start
            refine ⟨_, _, _, _, rfl, lst_cast upd_same ?_, by kcj_in⟩
            rw [show (0 + (i : Int)).toNat = i by omega]
            show _ = (tabRow F i ++ [_]).map V.int
            rw [List.map_append]
            rfl
        case rd =>
          rintro σ H5 ⟨u2, u4, u5, u6, rfl, er, s5⟩
          rw [show (((n + 1 : Nat) : Int) - 1).toNat = n by omega] at er
          have e5 := s5 _ _ e1
          have r5 := r1.same s5
          have hlr := tabRow_len F n
          have s05 := s1.trans s5
          clear e1 r1 s1 s5 nr s2
          tb_start
          intro p6 H6 e6 s6 n6
          have er6 := s6 _ _ er
          have e56 := s6 _ _ e5
          have r6 := r5.same s6
          have s06 := s05.trans s6
          have n06 : H p6 = none := s05.free n6
          clear er e5 r5 s05 s6 n6
          tb_start
          intro p7 n7
          have s7 : Same H6 (upd H6 p7 (.lst [.non, .ref p6])) := same_new n7
          have er7 := s7 _ _ er6
          have e57 := s7 _ _ e56
          have r7 := r6.same s7
          have e67 := s7 _ _ e6
          have s07 := s06.trans s7
          have e7 : (upd H6 p7 (.lst [.non, .ref p6])) p7 = some (.lst [.non, .ref p6]) := upd_same
          clear er6 e56 r6 s06 e6 s7 n7
          generalize (upd H6 p7 (.lst [.non, .ref p6])) = H7 at *
          tb_start
          intro p8 ls8 H8 e8 hl8 hL8 s8 n8
          have r8 : RowsF H8 ls8 (n + 1) (lineW (tabRow F n)) := ⟨by rw [hl8, hlr], fun k q h => (hL8 k q h).1⟩
          have e68 := s8 _ _ e67
          have e78 := s8 _ _ e7
          have hq1 : atI [V.non, V.ref p6] 1 = some (.ref p6) := rfl
          have hq0 : atI [V.non, V.ref p6] 0 = some .non := rfl
          tb_start
          refine rEq_rows2 (SqL.of e8) (SqL.of (s8 _ _ e57)) r8 (r7.same s8) ?_
          by_cases hEq : ∀ k, k < n + 1 → lineW (tabRow F n) k = F k
          · rw [decide_eq_true hEq]
            have hIs : IsTab H (.ref p) (tabRow F n) := ⟨p, ls, rfl, e, rw0.cast (by rw [hlr]) fun k hk => (hEq k (by omega)).symm⟩
            have hq : ∀ q H', H' q = some (.lst ((plainP (tabRow F n)).map V.int)) → Same H H' → H q = none → Q (.ref q) H' := by
              rcases q with ⟨r, hr, q⟩ | ⟨hno, _⟩
              · rw [(hIs.plain hr).1]; exact q
              · exact (hno ⟨_, hIs⟩).elim
            tb_start
            exact hq p6 _ e68 (s07.trans s8) n06
          · rw [decide_eq_false hEq]
            have hq : ∀ H', Same H H' → Q .non H' := by
              rcases q with ⟨r, hr, _⟩ | ⟨_, q⟩
              · obtain ⟨hrl, hk⟩ := hr.rows e rw0
                exact (hEq fun k h => by rw [(tabRow_lines hrl hk).2 k, hk k h]).elim
              · exact q
            tb_start
            exact hq _ (s07.trans s8)
    · have hq : ∀ H', Same H H' → Q .non H' := fun H' s => by
        rcases q with ⟨r, ⟨p, ls, rfl, e, _⟩, _⟩ | ⟨_, q⟩
        · exact (hn p _ rfl e).elim
        · exact q H' s
      tb_start
      exact hq _ (by kcj_in)
end
end Ur
namespace Ur
open PySem L2
/-- a thing is told rightly -/
def sp__law_right (K : PySem.W.Frag) : Sp := fun vs H Q _ => ∃ (L : Addr → Prop) (v : V), vs = [v] ∧ TT L H v ∧ (∀ p ls, v = .ref p → H p = some (.lst ls) → ls.length ≤ 1000) ∧ ∀ H', Same H H' → Q (.bl true) H'
section
variable {P : Program} {w : World} {K : PySem.W.Frag} {mg : Str → Option Value} {base : Heap} {A : Adr}
theorem ok__law_right (T : Txt K mg A) : FnG P w K mg base 6 A.f__law_right A.d__law_right ["thing"] (sp__law_right K) := by
  have G__law_asked := ok__law_asked (P := P) (w := w) (base := base) T
  have G__law_row_of := ok__law_row_of (P := P) (w := w) (base := base) T
  refine okG T.F__law_right sc__law_right (fun vs H Q E h => ?_) (fun cdv Ar outer s H vs Q E hr hgd h => ?_)
  · obtain ⟨L, v, rfl, _⟩ := h
    rfl
  · obtain ⟨L, v, rfl, ht, hlen, q⟩ := h
    have len1 : ∀ H1, Same H H1 → ∀ p ls, v = .ref p → H1 p = some (.lst ls) → ls.length ≤ 1000 := fun H1 s1 p ls e h => by
      subst e
      obtain ⟨o, ho⟩ := ht.kind.some
      have z := s1 _ _ ho
      rw [h] at z
      cases z
      exact hlen p ls rfl ho
    refine ⟨_, (pss_cons (ps_set (i := 1) sc__law_right.nd rfl (Or.inl rfl) (pe_call G__law_row_of (hr.mono (by decide)) (by rfl) T.g__law_row_of T.F__law_row_of.kp T.b__law_row_of .nil pass0 (pa_cons (pv 0) pa_nil)))
    (pss_cons (ps_set (i := 2) sc__law_right.nd rfl (Or.inl rfl) (pe_call G__law_asked (hr.mono (by decide)) (by rfl) T.g__law_asked T.F__law_asked.kp T.b__law_asked .nil pass0 (pa_cons (pv 0) pa_nil)))
    (pss_cons (ps_if (pt_cmpR op_isN (pv 1) pe_non (nomark _)) (pss_one (ps_ret (pe_cmpR op_isBl (pv 2) pe_bl (nomark _)))) pss_nil)
    (pss_one (ps_ret (pe_and (Ur.pe_b2 (Ur.call_isiK (K := K) rfl) (by rfl) T.m_isinstance (by decide +kernel) (pv 2) (pe_bltn (v := .ty "list") (by rfl) T.m_list (by decide +kernel) rfl)) (pe_one (pe_cmpR op_eq (Ur.pe_b1 (Ur.call_repr hgd (Ur.units66 hr)) (by rfl) T.m_repr (by decide +kernel) (pv 2)) (Ur.pe_b1 (Ur.call_repr hgd (Ur.units66 hr)) (by rfl) T.m_repr (by decide +kernel) (pv 1)) (nomark _))))))))), ?_⟩
    by_cases hT : ∃ r : List Int, IsTab H v r
    · obtain ⟨r, hr⟩ := hT
      have hrl : r.length ≤ 999 := by
        obtain ⟨p, ls, rfl, e, rr⟩ := hr
        have h1 := hlen p _ rfl e
        have h2 := rr.len
        rw [List.length_map] at h1
        omega
      have hpl := plainP_len r
      tb_start
      refine .inl ⟨r, hr, fun p1 H1 e1 s1 n1 => ?_⟩
      have ht1 := ht.same s1
      have hlen1 := len1 H1 s1
      tb_start
      refine .inl ⟨r, hr.same s1, fun p2 H2 e2 s2 n2 => ?_⟩
      have e12 := s2 _ _ e1
      clear hlen hlen1 len1
      tb_start
      refine repr_ints e2 (plain_sm (by omega)) (by omega) ?_
      tb_start
      refine repr_ints e12 (plain_sm (by omega)) (by omega) ?_
      tb_start
      exact qbv (q _ (s1.trans s2)) (decide_eq_true rfl)
    · tb_start
      refine .inr ⟨hT, fun H1 s1 => ?_⟩
      have ht1 := ht.same s1
      have hlen1 := len1 H1 s1
      tb_start
      refine .inr ⟨fun ⟨r, h⟩ => hT ⟨r, IsTab.back ht s1 h⟩, fun H2 s2 => ?_⟩
      clear hlen hlen1 len1
      tb_start
      exact q _ (s1.trans s2)
end
end Ur
namespace Ur
open PySem L2
/-- a number -/
def sp__law_value (K : PySem.W.Frag) : Sp := fun vs H Q _ => ∃ (w i : Int), vs = [.int w, .int i] ∧ ∀ (n : Int) H', Same H H' → Q (.int n) H'
section
variable {P : Program} {w : World} {K : PySem.W.Frag} {mg : Str → Option Value} {base : Heap} {A : Adr}
theorem ok__law_value (T : Txt K mg A) : FnOk P w K mg base CX0 1 A.f__law_value A.d__law_value ["way", "at"] (sp__law_value K) := by
  refine T.F__law_value.ok sc__law_value (fun vs H Q E h => ?_) (fun cdv Ar outer s H vs Q E hr h => ?_)
  · obtain ⟨w, i, rfl, _⟩ := h
    rfl
  · obtain ⟨w, i, rfl, q⟩ := h
    refine ⟨_, (pss_cons (ps_if (pt_cmpR op_eq (pv 0) pe_int (nomark _)) (pss_one (ps_ret (pv 1))) pss_nil)
    (pss_cons (ps_if (pt_cmpR op_eq (pv 0) pe_int (nomark _)) (pss_one (ps_ret (pe_op op_sub (pe_op op_pow pe_int pe_int) (pv 1)))) pss_nil)
    (pss_cons (ps_if (pt_cmpR op_eq (pv 0) pe_int (nomark _)) (pss_one (ps_ret (pe_op op_mul (pe_ix (Ur.ix_listK (K := K) rfl) (pe_lst (pa_cons (pe_un un_neg pe_int) (pa_cons pe_int pa_nil))) (pe_op op_mod (pv 1) pe_int) (fun _ _ => rfl)) (pe_op op_add (pe_op op_pow pe_int pe_int) (pv 1))))) pss_nil)
    (pss_cons (ps_if (pt_cmpR op_eq (pv 0) pe_int (nomark _)) (pss_one (ps_ret (pe_op op_sub (pv 1) pe_int))) pss_nil)
    (pss_one (ps_ret (pe_op op_sub (pe_op op_mul pe_int (pv 1)) (pe_op op_pow pe_int pe_int)))))))), ?_⟩
    kqd_in
    all_goals try (apply q <;> tb_rel)
    have h2 : i % 2 = 0 ∨ i % 2 = 1 := by omega
    rcases h2 with e | e
    · rw [e]
      exact Or.inl ⟨by decide, by decide⟩
    · rw [e]
      exact Or.inl ⟨by decide, by decide⟩
end
end Ur
namespace Ur
open PySem L2
/-- a row of at most 300 numbers -/
def sp__law_row (K : PySem.W.Frag) : Sp := fun vs H Q _ => ∃ (a : Addr) (ns : List Int) (mo : Int), vs = [.ref a, .int mo] ∧ H a = some (.lst (ns.map V.int)) ∧ (∀ x ∈ ns, 0 ≤ x) ∧ (0 ≤ mo ∧ mo ≤ 300) ∧ ∀ p (r ms : List Int) H', H' p = some (.lst (r.map V.int)) → H' a = some (.lst (ms.map V.int)) → (∀ x ∈ ms, 0 ≤ x) → But a H H' → H p = none → r.length ≤ 300 → Q (.ref p) H'
section
variable {P : Program} {w : World} {K : PySem.W.Frag} {mg : Str → Option Value} {base : Heap} {A : Adr}
theorem ok__law_row (T : Txt K mg A) : FnOk P w K mg base CX0 2 A.f__law_row A.d__law_row ["purse", "most"] (sp__law_row K) := by
  have G__law_next := ok__law_next (P := P) (w := w) (base := base) T
  have G__law_value := ok__law_value (P := P) (w := w) (base := base) T
  refine T.F__law_row.ok sc__law_row (fun vs H Q E h => ?_) (fun cdv Ar outer s H vs Q E hr h => ?_)
  · obtain ⟨a, ns, mo, rfl, _⟩ := h
    rfl
  · obtain ⟨a, ns, mo, rfl, ha, hp, hmo, q⟩ := h
    refine ⟨_, (pss_cons (ps_set (i := 2) sc__law_row.nd rfl (Or.inl rfl) (pe_op op_add pe_int (pe_op op_mod (pe_call G__law_next (hr.mono (by decide)) (by rfl) T.g__law_next T.F__law_next.kp T.b__law_next .nil pass0 (pa_cons (pv 0) pa_nil)) (pe_ix (Ur.ix_listK (K := K) rfl) (pe_lst (pa_cons pe_int (pa_cons pe_int (pa_cons pe_int (pa_cons pe_int pa_nil))))) (pe_op op_mod (pe_call G__law_next (hr.mono (by decide)) (by rfl) T.g__law_next T.F__law_next.kp T.b__law_next .nil pass0 (pa_cons (pv 0) pa_nil)) pe_int) (fun _ _ => rfl)))))
    (pss_cons (ps_set (i := 3) sc__law_row.nd rfl (Or.inr rfl) (pe_op op_mod (pe_call G__law_next (hr.mono (by decide)) (by rfl) T.g__law_next T.F__law_next.kp T.b__law_next .nil pass0 (pa_cons (pv 0) pa_nil)) pe_int))
    (pss_cons (ps_set (i := 4) sc__law_row.nd rfl (Or.inl rfl) (pe_op op_mod (pe_call G__law_next (hr.mono (by decide)) (by rfl) T.g__law_next T.F__law_next.kp T.b__law_next .nil pass0 (pa_cons (pv 0) pa_nil)) (pe_ix (Ur.ix_listK (K := K) rfl) (pe_lst (pa_cons pe_int (pa_cons pe_int (pa_cons pe_int (pa_cons pe_int pa_nil))))) (pe_op op_mod (pe_call G__law_next (hr.mono (by decide)) (by rfl) T.g__law_next T.F__law_next.kp T.b__law_next .nil pass0 (pa_cons (pv 0) pa_nil)) pe_int) (fun _ _ => rfl))))
    (pss_cons (ps_set (i := 5) sc__law_row.nd rfl (Or.inl rfl) (pe_op op_mod (pe_call G__law_next (hr.mono (by decide)) (by rfl) T.g__law_next T.F__law_next.kp T.b__law_next .nil pass0 (pa_cons (pv 0) pa_nil)) pe_int))
    (pss_cons (ps_set (i := 6) sc__law_row.nd rfl (Or.inl rfl) (pe_lst pa_nil))
    (pss_cons (ps_for PassesOwn.never (by rfl) (pi_range1 (by rfl) T.m_range (pa_cons (pv 4) pa_nil)) (pg_name (i := 7) sc__law_row.nd rfl (Or.inl rfl)) (pss_cons (ps_set (i := 8) sc__law_row.nd rfl (Or.inl rfl) (pe_call G__law_next (hr.mono (by decide)) (by rfl) T.g__law_next T.F__law_next.kp T.b__law_next .nil pass0 (pa_cons (pv 0) pa_nil)))
    (pss_one (ps_expr (pe_bm PySem.F.plainAttrs_list PySem.F.slot_list_append PySem.F.type_list_append mt_append (pv 6) (pa_cons (pe_op op_mod (pe_ix (Ur.ix_listK (K := K) rfl) (pe_lst (pa_cons (pv 7) (pa_cons (pe_op op_fdiv (pv 7) pe_int) (pa_cons (pv 8) (pa_cons (pv 8) (pa_cons (pv 8) (pa_cons (pv 8) pa_nil))))))) (pv 5) (fun _ _ => rfl)) (pv 2)) pa_nil))))))
    (Evl.pss_cut (ps_if (PW.pt (pw_and (pt_cmpR op_eq (pe_op op_mod (pe_call G__law_next (hr.mono (by decide)) (by rfl) T.g__law_next T.F__law_next.kp T.b__law_next .nil pass0 (pa_cons (pv 0) pa_nil)) pe_int) pe_int (nomark _)) (pw_and1 (pt_cmpR (Ur.op_neDK (K := K) rfl hr.units) (pv 6) (pe_lst pa_nil) (nomark _))))) (pss_cons (ps_set (i := 9) sc__law_row.nd rfl (Or.inl rfl) (pe_op op_add pe_int (pe_op op_mod (pe_call G__law_next (hr.mono (by decide)) (by rfl) T.g__law_next T.F__law_next.kp T.b__law_next .nil pass0 (pa_cons (pv 0) pa_nil)) (pe_ix (Ur.ix_listK (K := K) rfl) (pe_lst (pa_cons pe_int (pa_cons pe_int pa_nil))) (pe_op op_mod (pe_call G__law_next (hr.mono (by decide)) (by rfl) T.g__law_next T.F__law_next.kp T.b__law_next .nil pass0 (pa_cons (pv 0) pa_nil)) pe_int) (fun _ _ => rfl)))))
    (pss_cons (ps_set (i := 10) sc__law_row.nd rfl (Or.inl rfl) (Ur.pe_b1 (Ur.call_lenIK (K := K) rfl) (by rfl) T.m_len (by decide +kernel) (pv 6)))
    (pss_cons (ps_set (i := 11) sc__law_row.nd rfl (Or.inl rfl) (pe_op op_add (pv 2) (pv 9)))
    (pss_cons (ps_set (i := 12) sc__law_row.nd rfl (Or.inl rfl) (pe_lst pa_nil))
    (pss_cons (ps_for PassesOwn.never (by rfl) (pi_range1 (by rfl) T.m_range (pa_cons (pv 1) pa_nil)) (pg_name (i := 7) sc__law_row.nd rfl (Or.inl rfl)) (pss_one (ps_expr (pe_bm PySem.F.plainAttrs_list PySem.F.slot_list_append PySem.F.type_list_append mt_append (pv 12) (pa_cons (pe_op op_mod (pe_op op_add (pe_ix (Ur.ix_listK (K := K) rfl) (pv 6) (pe_op op_mod (pv 7) (pv 10)) (fun _ _ => rfl)) (pe_op op_mod (pe_op op_fdiv (pv 7) (pv 10)) (pv 9))) (pv 11)) pa_nil)))))
    (pss_one (ps_set (i := 6) sc__law_row.nd rfl (Or.inl rfl) (pv 12)))))))) pss_nil)
    (pss_one (ps_ret (pe_lc (own := [("at", 13)]) (g := gName 13) (by rfl) sc__law_row.nd (pi_list (pv 6)) (blkOk_by (own := [("at", 13)]) (N := ["purse", "most", "unlike", "way", "many", "kind", "places", "k", "drawn", "turns", "size", "wide", "again", "at"]) (by kernel_rfl)) (fun _ _ _ _ _ => pg_name (i := 13) sc__law_row.nd rfl (Or.inl rfl)) (fun _ _ _ _ _ => pts_nil) (fun _ _ _ _ _ => (pe_call G__law_value (hr.mono (by decide)) (by rfl) T.g__law_value T.F__law_value.kp T.b__law_value .nil pass0 (pa_cons (pv 3) (pa_cons (pv 13) pa_nil)))))))))))))), ?_⟩
    tb_start
    intro x1 n1 H1 hx1 hp1 a1 b1
    tb_start
    intro p2 np2
    have hap2 : a ≠ p2 := by kcj_m
    tb_start
    intro x3 n3 H3 hx3 hp3 a3 b3
    have e3 := b3 _ _ (Ne.symm hap2) upd_same
    have g3 := getD4 (x := 2) (y := 4) (z := 9) (w := 40) (i := x3 % 4) (lo := 2) (hi := 40) (by omega) (by omega) (by omega) (by omega) (by omega) (by omega)
    tb_start
    generalize [(2 : Int), 4, 9, 40].getD (x3 % 4).toNat 0 = u0 at g3 ⊢
    have hu1 := Int.emod_nonneg x1 (show u0 ≠ 0 by omega)
    have hu2 := Int.emod_lt_of_pos x1 (show 0 < u0 by omega)
    intro x4 n4 H4 hx4 hp4 a4 b4
    tb_start
    intro x5 n5 H5 hx5 hp5 a5 b5
    tb_start
    intro p6 np6
    have hap6 : a ≠ p6 := by kcj_m
    tb_start
    intro x7 n7 H7 hx7 hp7 a7 b7
    have e7 := b7 _ _ (Ne.symm hap6) upd_same
    have g7 := getD4 (x := 5) (y := 12) (z := 30) (w := 41) (i := x7 % 4) (lo := 5) (hi := 41) (by omega) (by omega) (by omega) (by omega) (by omega) (by omega)
    tb_start
    generalize [(5 : Int), 12, 30, 41].getD (x7 % 4).toNat 0 = u1 at g7 ⊢
    have hm1 := Int.emod_nonneg x5 (show u1 ≠ 0 by omega)
    have hm2 := Int.emod_lt_of_pos x5 (show 0 < u1 by omega)
    intro x8 n8 H8 hx8 hp8 a8 b8
    tb_start
    intro pl npl
    have hapl : a ≠ pl := by kcj_m
    have bH : But a H (upd H8 pl (.lst [])) := by cc_are
    have fpl : H pl = none := by cc_off
    tb_start
    refine for_range (fun i σ H' => Iv (∃ (u7 u8 u9 u10 u11 u12 u13 : Option V) (ps ms : List Int), σ = [some (.ref a), some (.int mo), some (.int (1 + x1 % u0)), some (.int (x4 % 5)), some (.int (x5 % u1)), some (.int (x8 % 6)), some (.ref pl), u7, u8, u9, u10, u11, u12, u13] ∧ H' pl = some (.lst (ps.map V.int)) ∧ ps.length = i ∧ H' a = some (.lst (ms.map V.int)) ∧ (∀ x ∈ ms, 0 ≤ x) ∧ But a H H')) ?h0 ?hs ?hd
    case h0 => exact ⟨_, _, _, _, _, _, _, [], n8, rfl, upd_same, rfl, by kct_strs, hp8, bH⟩
    case hs =>
      rintro i σ H' hi ⟨u7, u8, u9, u10, u11, u12, u13, ps, ms, rfl, ep, hl, ea, hms, b'⟩
      have hi2 : i < 41 := by omega
      tb_start
      intro y1 m1 K1 hy1 hq1 c1 d1
      have ep1 := d1 _ _ (Ne.symm hapl) ep
      have b1' := but_step d1 b'
      clear d1 b'
      tb_start
      intro p9 np9
      have hap9 : a ≠ p9 := by kcj_m
      tb_start
      exact ⟨_, _, _, _, _, _, _, _, m1, rfl, by kct_strs, by rw [List.length_append, hl]; rfl, by kct_strs, hq1, by cc_are⟩
    case hd =>
      rintro σ H' ⟨u7, u8, u9, u10, u11, u12, u13, ps, ms, rfl, ep, hl, ea, hms, b'⟩
      have hlen : ps.length ≤ 41 := by omega
      refine ⟨fun σ H' => Iv (∃ (u7 u8 u9 u10 u11 u12 u13 : Option V) (pl : Addr) (ps ms : List Int), σ = [some (.ref a), some (.int mo), some (.int (1 + x1 % u0)), some (.int (x4 % 5)), some (.int (x5 % u1)), some (.int (x8 % 6)), some (.ref pl), u7, u8, u9, u10, u11, u12, u13] ∧ H' pl = some (.lst (ps.map V.int)) ∧ H pl = none ∧ pl ≠ a ∧ ps.length ≤ 300 ∧ H' a = some (.lst (ms.map V.int)) ∧ (∀ x ∈ ms, 0 ≤ x) ∧ But a H H'), ?_, ?_⟩
      · tb_start
        intro y1 m1 K1 hy1 hq1 c1 d1
        have ep1 := d1 _ _ (Ne.symm hapl) ep
        have b1' := but_step d1 b'
        clear d1 b'
        tb_start
        refine bri (fun h8 => ?_) (fun h8 => ?_)
        · tb_start
          intro pe npe
          have hape : a ≠ pe := by kcj_m
          have hlpe : pl ≠ pe := by kcj_m
          tb_start
          refine brn (fun hne => ?_) (fun hne => ?_)
          · have hpos : 0 < ps.length := by
              cases ps with
              | nil => exact absurd rfl hne
              | cons y ps => exact Nat.succ_pos _
            tb_start
            intro y2 m2 K2 hy2 hq2 c2 d2
            have ep2 := d2 _ _ (Ne.symm hapl) (by kct_strs)
            have b2' : But a H K2 := but_step d2 (but_snoc npe b1')
            clear d2 b1'
            tb_start
            intro pf npf
            have hapf : a ≠ pf := by kcj_m
            have hlpf : pl ≠ pf := by kcj_m
            tb_start
            intro y3 m3 K3 hy3 hq3 c3 d3
            have ep3 := d3 _ _ (Ne.symm hapl) (by kct_strs)
            have ef3 := d3 _ _ (Ne.symm hapf) upd_same
            have b3' : But a H K3 := but_step d3 (but_snoc npf b2')
            clear d3 b2'
            have g7' := getD2 (x := 7) (y := 300) (i := y3 % 2) (lo := 7) (hi := 300) (by omega) (by omega) (by omega) (by omega)
            have t1 := Int.emod_nonneg y2 (show [(7 : Int), 300].getD (y3 % 2).toNat 0 ≠ 0 by omega)
            tb_start
            intro pg npg
            have hapg : a ≠ pg := by kcj_m
            have hlpg : pl ≠ pg := by kcj_m
            have fpg : H pg = none := by cc_off
            tb_start
            refine for_range (fun i σ H' => Iv (∃ (u7 u8 u13 : Option V) (rs : List Int), σ = [some (.ref a), some (.int mo), some (.int (1 + x1 % u0)), some (.int (x4 % 5)), some (.int (x5 % u1)), some (.int (x8 % 6)), some (.ref pl), u7, u8, some (.int (1 + y2 % [(7 : Int), 300].getD (y3 % 2).toNat 0)), some (.int ps.length), some (.int (1 + x1 % u0 + (1 + y2 % [(7 : Int), 300].getD (y3 % 2).toNat 0))), some (.ref pg), u13] ∧ H' pg = some (.lst (rs.map V.int)) ∧ rs.length = i ∧ H' pl = some (.lst (ps.map V.int)) ∧ H' a = some (.lst (m3.map V.int)) ∧ But a H H')) ?i0 ?is ?id
            case i0 => exact ⟨_, _, _, [], rfl, upd_same, rfl, by kct_strs, by kct_strs, by cc_are⟩
            case is =>
              rintro j σ H5 hj ⟨u7, u8, u13, rs, rfl, eg, hl, ep5, ea5, b5'⟩
              have hj2 : j < 300 := by omega
              have k1' := Int.emod_nonneg ((0 : Int) + (j : Int)) (show (ps.length : Int) ≠ 0 by omega)
              have k2' := Int.emod_lt_of_pos ((0 : Int) + (j : Int)) (show 0 < (ps.length : Int) by omega)
              tb_start
              exact ⟨_, _, _, _, rfl, by kct_strs, by rw [List.length_append, hl]; rfl, by kct_strs, by kct_strs, by cc_are⟩
            case id =>
              rintro σ H5 ⟨u7, u8, u13, rs, rfl, eg, hl, ep5, ea5, b5'⟩
              tb_start
              exact ⟨_, _, _, _, _, _, _, pg, rs, m3, rfl, eg, fpg, Ne.symm hapg, by omega, ea5, hq3, b5'⟩
          · exact ⟨_, _, _, _, _, _, _, pl, ps, m1, rfl, by kct_strs, fpl, Ne.symm hapl, by omega, by kct_strs, hq1, by cc_are⟩
        · exact ⟨_, _, _, _, _, _, _, pl, ps, m1, rfl, by kct_strs, fpl, Ne.symm hapl, by omega, by kct_strs, hq1, by cc_are⟩
      · rintro σ H2' ⟨u7, u8, u9, u10, u11, u12, u13, pl, ps, ms, rfl, ep, fpl, hpa, hlen, ea, hms, b'⟩
        tb_start
        intro D nD
        have hDa : D ≠ a := by kcj_m
        refine lc_list (K := K) (a := pl) (xs := ps.map V.int) (fun i H'' => ∃ r : List Int, H'' D = some (.lst (r.map V.int)) ∧ r.length = i ∧ Same H2' H'') ⟨[], upd_same, rfl, same_new nD⟩ (fun i H'' _ p => ?_) (fun i x H'' hx p => ?_) (fun H'' p => ?_)
        · obtain ⟨r, _, _, s⟩ := p
          exact .of (s _ _ ep)
        · obtain ⟨z, hz, rfl⟩ := iv_get hx
          have hi := (List.getElem?_eq_some_iff.mp hz).1
          obtain ⟨r, e, hl, s⟩ := p
          refine ⟨rfl, tyes_ok ?_⟩
          tb_start
          intro v K1 s1
          exact ⟨_, s1 _ _ e, szl (by rw [List.length_map]; omega), r ++ [v], upd_snoc, by rw [List.length_append, hl]; rfl, same_upd' nD (s.trans s1)⟩
        · obtain ⟨r, e, hl, s⟩ := p
          exact q D r ms _ e (s _ _ ea) hms (but_step' s b') (by cc_off) (by rw [hl, List.length_map]; exact hlen)
end
end Ur
namespace Ur
open PySem L2
/-- the law holds -/
def sp_law (K : PySem.W.Frag) : Sp := fun vs H Q _ => ∃ (a : Addr) (ns : List Int), vs = [.ref a] ∧ SqL K H a (ns.map V.int) ∧ ns.length ≤ 63 ∧ ∀ H', Q (.bl true) H'
section
variable {P : Program} {w : World} {K : PySem.W.Frag} {mg : Str → Option Value} {base : Heap} {A : Adr}
theorem ok_law (T : Txt K mg A) : FnG P w K mg base 7 A.f_law A.d_law ["script"] (sp_law K) := by
  have G__law_lines := ok__law_lines (P := P) (w := w) (base := base) T
  have G__law_lines_otherwise := ok__law_lines_otherwise (P := P) (w := w) (base := base) T
  have G__law_most := ok__law_most (P := P) (w := w) (base := base) T
  have G__law_next := ok__law_next (P := P) (w := w) (base := base) T
  have G__law_one_otherwise := ok__law_one_otherwise (P := P) (w := w) (base := base) T
  have G__law_purse := ok__law_purse (P := P) (w := w) (base := base) T
  have G__law_right := ok__law_right (P := P) (w := w) (base := base) T
  have G__law_row := ok__law_row (P := P) (w := w) (base := base) T
  refine okG T.F_law sc_law (fun vs H Q E h => ?_) (fun cdv Ar outer s H vs Q E hr hgd h => ?_)
  · obtain ⟨a, ns, rfl, _⟩ := h
    rfl
  · obtain ⟨a, ns, rfl, ha, hl, q⟩ := h
    refine ⟨_, (pss_cons (ps_for PassesOwn.never (by rfl) (pi_range1 (by rfl) T.m_range (pa_cons pe_int pa_nil)) (pg_name (i := 1) sc_law.nd rfl (Or.inl rfl)) (pss_cons (ps_set (i := 2) sc_law.nd rfl (Or.inl rfl) (pe_call G__law_purse (hr.mono (by decide)) (by rfl) T.g__law_purse T.F__law_purse.kp T.b__law_purse .nil pass0 (pa_cons (pv 0) (pa_cons (pv 1) (pa_cons pe_int (pa_cons pe_int pa_nil))))))
    (pss_cons (ps_set (i := 3) sc_law.nd rfl (Or.inl rfl) (pe_call G__law_row (hr.mono (by decide)) (by rfl) T.g__law_row T.F__law_row.kp T.b__law_row .nil pass0 (pa_cons (pv 2) (pa_cons (pe_call G__law_most (hr.mono (by decide)) (by rfl) T.g__law_most T.F__law_most.kp T.b__law_most .nil pass0 (pa_cons (pv 0) (pa_cons (pv 1) pa_nil))) pa_nil))))
    (Evl.pss_cut (ps_if (pt_cmpR op_eq (pe_op op_mod (pe_call G__law_next (hr.mono (by decide)) (by rfl) T.g__law_next T.F__law_next.kp T.b__law_next .nil pass0 (pa_cons (pv 2) pa_nil)) pe_int) pe_int (nomark _)) (pss_one (ps_set (i := 3) sc_law.nd rfl (Or.inl rfl) (pe_slice (Ur.sl_listK (K := K) rfl) (pv 3) po_none (po_some (pe_op op_add pe_int (pe_op op_mod (pe_call G__law_next (hr.mono (by decide)) (by rfl) T.g__law_next T.F__law_next.kp T.b__law_next .nil pass0 (pa_cons (pv 2) pa_nil)) pe_int)))))) pss_nil)
    (pss_cons (ps_set (i := 4) sc_law.nd rfl (Or.inl rfl) (pe_call G__law_lines (hr.mono (by decide)) (by rfl) T.g__law_lines T.F__law_lines.kp T.b__law_lines .nil pass0 (pa_cons (pv 3) pa_nil)))
    (Evl.pss_cut (ps_set (i := 5) sc_law.nd rfl (Or.inl rfl) (pe_call G__law_one_otherwise (hr.mono (by decide)) (by rfl) T.g__law_one_otherwise T.F__law_one_otherwise.kp T.b__law_one_otherwise .nil pass0 (pa_cons (pv 2) (pa_cons (pv 4) pa_nil))))
    (pss_cons (ps_set (i := 6) sc_law.nd rfl (Or.inl rfl) (pe_lst (pa_cons (pv 5) (pa_cons (pe_call G__law_lines_otherwise (hr.mono (by decide)) (by rfl) T.g__law_lines_otherwise T.F__law_lines_otherwise.kp T.b__law_lines_otherwise .nil pass0 (pa_cons (pv 2) (pa_cons (pv 4) pa_nil))) (pa_cons (pe_call G__law_one_otherwise (hr.mono (by decide)) (by rfl) T.g__law_one_otherwise T.F__law_one_otherwise.kp T.b__law_one_otherwise .nil pass0 (pa_cons (pv 2) (pa_cons (pv 4) pa_nil))) pa_nil)))))
    (Evl.pss_cut (ps_if (pt_cmpR (Ur.op_eqDK (K := K) rfl hr.units) (pe_lc (own := [("line", 10)]) (g := gName 10) (by rfl) sc_law.nd (pi_list (pv 5)) (blkOk_by (own := [("line", 10)]) (N := ["script", "k", "purse", "row", "table", "once", "things", "at", "number", "thing", "line"]) (by kernel_rfl)) (fun _ _ _ _ _ => pg_name (i := 10) sc_law.nd rfl (Or.inl rfl)) (fun _ _ _ _ _ => pts_one (PW.pt (pw_or (pt_not (pt_val (Ur.pe_b2 (Ur.call_isiK (K := K) rfl) (by rfl) T.m_isinstance (by decide +kernel) (pv 10) (pe_bltn (v := .ty "list") (by rfl) T.m_list (by decide +kernel) rfl)))) (pw_or1 (pt_cmpR (Ur.op_eqL (K := K) (by rfl) hr.units) (pv 10) (pe_lst pa_nil) (nomark _)))))) (fun _ _ _ _ _ => (pv 10))) (pe_lst pa_nil) (nomark _)) (pss_one (ps_expr (pe_bm PySem.F.plainAttrs_list PySem.F.slot_list_append PySem.F.type_list_append mt_append (pv 6) (pa_cons (pe_call G__law_one_otherwise (hr.mono (by decide)) (by rfl) T.g__law_one_otherwise T.F__law_one_otherwise.kp T.b__law_one_otherwise .nil pass0 (pa_cons (pv 2) (pa_cons (pv 5) pa_nil))) pa_nil)))) pss_nil)
    (Evl.pss_cut (ps_if (pt_cmpR (Ur.op_neDK (K := K) rfl hr.units) (pv 3) (pe_lst pa_nil) (nomark _)) (pss_cons (ps_set (i := 7) sc_law.nd rfl (Or.inl rfl) (pe_op op_mod (pe_call G__law_next (hr.mono (by decide)) (by rfl) T.g__law_next T.F__law_next.kp T.b__law_next .nil pass0 (pa_cons (pv 2) pa_nil)) (Ur.pe_b1 (Ur.call_lenIK (K := K) rfl) (by rfl) T.m_len (by decide +kernel) (pv 3))))
    (pss_cons (ps_set (i := 8) sc_law.nd rfl (Or.inl rfl) (pe_ix (Ur.ix_listK (K := K) rfl) (pv 3) (pe_op op_mod (pe_call G__law_next (hr.mono (by decide)) (by rfl) T.g__law_next T.F__law_next.kp T.b__law_next .nil pass0 (pa_cons (pv 2) pa_nil)) (Ur.pe_b1 (Ur.call_lenIK (K := K) rfl) (by rfl) T.m_len (by decide +kernel) (pv 3))) (fun _ _ => rfl)))
    (pss_one (ps_expr (pe_bm PySem.F.plainAttrs_list PySem.F.slot_list_append PySem.F.type_list_append mt_append (pv 6) (pa_cons (pe_call G__law_lines (hr.mono (by decide)) (by rfl) T.g__law_lines T.F__law_lines.kp T.b__law_lines .nil pass0 (pa_cons (pe_op op_cat (pe_op op_cat (pe_slice (Ur.sl_listK (K := K) rfl) (pv 3) po_none (po_some (pv 7))) (pe_lst (pa_cons (pv 8) pa_nil))) (pe_slice (Ur.sl_listK (K := K) rfl) (pv 3) (po_some (pe_op op_add (pv 7) pe_int)) po_none)) pa_nil)) pa_nil)))))) pss_nil)
    (pss_one (ps_for PassesOwn.never (by rfl) (pi_list (pe_op op_cat (pv 6) (pe_lst (pa_cons (pv 4) pa_nil)))) (pg_name (i := 9) sc_law.nd rfl (Or.inl rfl)) (pss_one (ps_if (pt_not (pt_val (Ur.pe_callG G__law_right (hr.mono (by decide)) hgd (by rfl) T.g__law_right T.F__law_right.kp T.b__law_right (pa_cons (pv 9) pa_nil)))) (pss_one (ps_ret pe_bl)) pss_nil)))))))))))))
    (pss_one (ps_ret pe_bl))), ?_⟩
    tb_start
    refine for_range (fun i σ H' => Iv (∃ (u1 u2 u3 u4 u5 u6 u7 u8 u9 u10 : Option V), σ = [some (.ref a), u1, u2, u3, u4, u5, u6, u7, u8, u9, u10] ∧ Same H H')) ?h0 ?hs ?hd
    case h0 => exact ⟨_, _, _, _, _, _, _, _, _, _, rfl, by kcj_in⟩
    case hd =>
      rintro σ H1 ⟨u1, u2, u3, u4, u5, u6, u7, u8, u9, u10, rfl, s1⟩
      tb_start
      exact q _
    case hs =>
      rintro i σ H1 hi ⟨u1, u2, u3, u4, u5, u6, u7, u8, u9, u10, rfl, s1⟩
      have ha1 := s1.seq ha
      tb_start
      intro p1 ps H2 e2 hp2 hl2 s2 n2
      have ha2 := s2.seq ha1
      tb_start
      intro mo H3 hm1 hm2 s3
      have e3 := s3 _ _ e2
      tb_start
      intro p4 r0 ms H4 e4 a4 hms b4 n4 hlr0
      have sA : Same H1 H4 := same_but b4 n2 (s2.trans s3)
      have h41 : p4 ≠ p1 := fun z => by rw [z, e3] at n4; cases n4
      clear e3 e2 b4 n4 s2 s3 ha2 hp2 hl2
      tb_start
      refine ⟨fun σ H' => Iv (∃ (pr : Addr) (r ms : List Int), σ = [some (.ref a), some (.int (0 + (i : Int))), some (.ref p1), some (.ref pr), u4, u5, u6, u7, u8, u9, u10] ∧ H' pr = some (.lst (r.map V.int)) ∧ r.length ≤ 300 ∧ H' p1 = some (.lst (ms.map V.int)) ∧ (∀ x ∈ ms, 0 ≤ x) ∧ pr ≠ p1 ∧ Same H1 H'), ?_, ?_⟩
      · tb_start
        intro y1 ms5 H5 hy1 hms5 a5 b5
        have e45 := b5 _ _ h41 e4
        have s5 := same_but b5 n2 sA
        tb_start
        refine bri (fun _ => ?_) (fun _ => ?_)
        · tb_start
          intro y2 ms6 H6 hy2 hms6 a6 b6
          have e46 := b6 _ _ h41 e45
          have s6 := same_but b6 n2 s5
          tb_start
          intro p7 n7
          have h71 : p7 ≠ p1 := fun z => by rw [z, a6] at n7; cases n7
          have s7 : Same H6 (upd H6 p7 (.lst (cutV (r0.map V.int) none (some (1 + y2 % 6))))) := same_new n7
          tb_start
          refine ⟨p7, r0.take (1 + y2 % 6).toNat, ms6, rfl, lst_cast upd_same (cutI_to _ (by omega)), by rw [List.length_take]; omega, s7 _ _ a6, hms6, h71, s6.trans s7⟩
        · tb_start
          exact ⟨p4, r0, ms5, rfl, e45, hlr0, a5, hms5, h41, s5⟩
      rintro σ H5 ⟨pr, r, ms5, rfl, er5, hlr, a5, hms5, hr1, s5⟩
      clear e4 a4 hms h41 sA hlr0
      tb_start
      intro pt ls H6 e6 hls hL6 s6 n6
      have r6 : RowsF H6 ls (r.length + 1) (lineW r) := ⟨hls, fun f l e => (hL6 f l e).1⟩
      have a6 := s6 _ _ a5
      have er6 := s6 _ _ er5
      have ht1 : pt ≠ p1 := fun z => by rw [z, a5] at n6; cases n6
      have hlp : ∀ l ∈ ls, l ≠ p1 := fun l hm z => by
        obtain ⟨k, hk⟩ := List.mem_iff_getElem?.mp hm
        have := (hL6 k l hk).2
        rw [z, a5] at this
        cases this
      have tb6 : Tb (Bar1 p1) H6 400 pt (ls.map V.ref) := Tb.rows e6 r6 hlr (Bar1.ne ht1) fun l hm => Bar1.ne (hlp l hm)
      have hintB : ∀ H', But p1 H6 H' → ∀ l ys, V.ref l ∈ ls.map V.ref → H' l = some (.lst ys) → ∀ y ∈ ys, ∃ i, y = V.int i := fun H' b l ys hm e y hy => by
        obtain ⟨l', hm', z⟩ := List.mem_map.mp hm
        cases z
        obtain ⟨k, hk⟩ := List.mem_iff_getElem?.mp hm'
        have := b _ _ (hlp l hm') (r6.row k l hk)
        rw [this] at e
        cases e
        obtain ⟨m, _, rfl⟩ := List.mem_map.mp hy
        exact ⟨m, rfl⟩
      have s16 := s5.trans s6
      clear er5 a5 s5 s6 n6 hL6 e6 hls
      have lb1 : Bar1 p1 p1 := Bar1.self
      have old6 : Old (Bar1 p1) H6 := Bar1.old a6
      tb_start
      refine ⟨fun σ H' => Iv (∃ (po : Addr) (xo : List V) (ms : List Int), σ = [some (.ref a), some (.int (0 + (i : Int))), some (.ref p1), some (.ref pr), some (.ref pt), some (.ref po), u6, u7, u8, u9, u10] ∧ Tb (Bar1 p1) H' (400 + 10 ^ 31) po xo ∧ H' p1 = some (.lst (ms.map V.int)) ∧ (∀ x ∈ ms, 0 ≤ x) ∧ But p1 H6 H'), ?_, ?_⟩
      · tb_start
        intro p7 xs7 ms7 H7 tb7 a7 hms7 b7 n7
        tb_start
        exact ⟨p7, xs7, ms7, rfl, tb7, a7, hms7, b7⟩
      rintro σ H7 ⟨po, xo, ms7, rfl, to7, a7, hms7, b7⟩
      have er7 := b7 _ _ hr1 er6
      have tb7 := tb6.but Bar1.self b7
      have hint7 := hintB H7 b7
      have s17 := same_but b7 n2 s16
      have b67 := b7
      clear a6 er6 tb6 hms5 b7 old6
      tb_start
      intro v8 ms8 H8 o8 a8 hms8 b8
      have er8 := b8 _ _ hr1 er7
      have tb8 := tb7.but Bar1.self b8
      have to8 := to7.but Bar1.self b8
      have s18 := same_but b8 n2 s17
      clear a7 er7 tb7 to7 hms7 s17 hint7
      have old8 : Old (Bar1 p1) H8 := Bar1.old a8
      tb_start
      intro p9 xs9 ms9 H9 tb9 a9 hms9 b9 n9
      have er9 := b9 _ _ hr1 er8
      have tt9 := tb8.but Bar1.self b9
      have to9 := to8.but Bar1.self b9
      have o89 := o8.but Bar1.self b9
      have o9 := tb9.od
      have s19 := same_but b9 n2 s18
      clear a8 er8 tb8 to8 hms8 s18 o8 b8 b9 tb9 hintB b67 n9 old8
      tb_start
      intro w nw
      have hw1 : w ≠ p1 := fun z => by rw [z, a9] at nw; cases nw
      have hwr : pr ≠ w := fun z => by rw [← z, er9] at nw; cases nw
      have nw1 : H1 w = none := s19.free nw
      have ds : ∀ x ∈ [V.ref po, v8, V.ref p9], OD (fun b => Bar1 p1 b ∨ b = w) H9 x := fa_cons (to9.od.bar nw) (fa_cons (o89.bar nw) (fa_cons (o9.bar nw) fa_nil))
      have tt9' := tt9.bar nw
      have to9' := to9.bar nw
      generalize hX : (upd _ w _) = HW
      have sw : Same H9 HW := by rw [← hX]; exact same_new nw
      have xw : HW w = some (.lst [V.ref po, v8, V.ref p9]) := by rw [← hX]; exact upd_same
      have dW := fun x hx => (ds x hx).same sw
      have ttW := tt9'.same sw
      have toW := to9'.same sw
      have erW := sw _ _ er9
      have aW := sw _ _ a9
      have s1W := s19.trans sw
      have kW : ([V.ref po, v8, V.ref p9] : List V).length = 3 := rfl
      generalize [V.ref po, v8, V.ref p9] = zs at xw dW kW
      clear hX ds tt9' to9' tt9 to9 o89 o9 er9 a9 s19 nw sw
      tb_start
      refine ⟨fun σ H' => Iv (∃ (zs : List V) (ms : List Int) (u10 : Option V), σ = [some (.ref a), some (.int (0 + (i : Int))), some (.ref p1), some (.ref pr), some (.ref pt), some (.ref po), some (.ref w), u7, u8, u9, u10] ∧ H' w = some (.lst zs) ∧ zs.length ≤ 4 ∧ (∀ x ∈ zs, OD (fun b => Bar1 p1 b ∨ b = w) H' x) ∧ Tb (fun b => Bar1 p1 b ∨ b = w) H' 400 pt (ls.map V.ref) ∧ H' pr = some (.lst (r.map V.int)) ∧ H' p1 = some (.lst (ms.map V.int)) ∧ (∀ x ∈ ms, 0 ≤ x) ∧ Same H1 H'), ?_, ?_⟩
      · have eo := toW.at_
        have lo1 := toW.pos
        have lo2 := toW.le
        tb_start
        intro D nD
        refine lc_valsIf (xs := xo) (fun _ => false) (fun x => x) (by omega) (SqL.of eo) nD (fun _ => rfl) ?ct ?ce ?cd
        case ct =>
          intro x H' hm s Q2 q2
          obtain ⟨l, ys, rfl, el, k1, k2, _, _⟩ := ((toW.line x hm).same s).ex
          tb_start
          intro pn nn
          have sn : Same H' (upd H' pn (.lst [])) := same_new nn
          refine rEqL_nil (SqL.of (sn _ _ el)) (SqL.of upd_same) ?_
          cases ys with
          | nil => cases k1
          | cons y ys =>
            tb_start
            exact q2 _ sn
        case ce =>
          intro x H' hm hf
          cases hf
        case cd =>
          intro H10 s10 e10
          have e10' : H10 D = some (.lst []) := by rw [e10, List.filter_eq_nil_iff.mpr (fun _ _ => Bool.false_ne_true)]; rfl
          have x10 := s10 _ _ xw
          have d10 := fun x hx => (dW x hx).same s10
          have tt10 := ttW.same s10
          have to10 := toW.same s10
          have er10 := s10 _ _ erW
          have a10 := s10 _ _ aW
          have s110 := s1W.trans s10
          clear s10 e10 xw dW ttW toW erW aW s1W eo nD
          tb_start
          intro pn nn
          have sn : Same H10 (upd H10 pn (.lst [])) := same_new nn
          refine rEq_nil2 (sn _ _ e10') upd_same ?_
          replace x10 := sn _ _ x10
          replace d10 := fun x hx => (d10 x hx).same sn
          replace tt10 := tt10.same sn
          replace to10 := to10.same sn
          replace er10 := sn _ _ er10
          replace a10 := sn _ _ a10
          replace s110 := s110.trans sn
          clear e10' nn sn
          generalize (upd H10 pn (.lst [])) = H11 at *
          have lw : (fun b => Bar1 p1 b ∨ b = w) p1 := .inl rfl
          have old11 : Old (fun b => Bar1 p1 b ∨ b = w) H11 := Old.bar (Bar1.old a10) x10
          tb_start
          intro p12 xs12 ms12 H12 tb12 a12 hms12 b12 n12
          have x12 := b12 _ _ hw1 x10
          have er12 := b12 _ _ hr1 er10
          have d12 := fun x hx => (d10 x hx).but (.inl Bar1.self) b12
          have tt12 := tt10.but (.inl Bar1.self) b12
          have s112 := same_but b12 n2 s110
          have o12 := tb12.od
          clear d10 tt10 to10 er10 a10 s110 old11 x10 b12 n12 tb12
          tb_start
          have bw : But w H12 (upd H12 w (.lst (zs ++ [V.ref p12]))) := fun x o e h => by rw [upd_ne e]; exact h
          exact ⟨zs ++ [V.ref p12], ms12, _, rfl, upd_same, by rw [List.length_append, kW]; show 3 + 1 ≤ 4; omega, fa_app (fun x hx => (d12 x hx).but (.inr rfl) bw) (fa_cons (o12.but (.inr rfl) bw) fa_nil), tt12.but (.inr rfl) bw, by rw [upd_ne hwr]; exact er12, by rw [upd_ne (Ne.symm hw1)]; exact a12, hms12, same_but bw nw1 s112⟩
      rintro σ H13 ⟨zs, ms, u10, rfl, xw, k13, d13, tt13, er13, a13, hms13, s13⟩
      clear dW ttW toW erW aW s1W kW r6 hms9
      tb_start
      refine ⟨fun σ H' => Iv (∃ (zs : List V) (ms : List Int) (u7 u8 u9 u10 : Option V), σ = [some (.ref a), some (.int (0 + (i : Int))), some (.ref p1), some (.ref pr), some (.ref pt), some (.ref po), some (.ref w), u7, u8, u9, u10] ∧ H' w = some (.lst zs) ∧ zs.length ≤ 5 ∧ (∀ x ∈ zs, OD (fun b => Bar1 p1 b ∨ b = w) H' x) ∧ Tb (fun b => Bar1 p1 b ∨ b = w) H' 400 pt (ls.map V.ref) ∧ Same H1 H'), ?_, ?_⟩
      · tb_start
        intro pn nn
        have sn : Same H13 (upd H13 pn (.lst [])) := same_new nn
        tb_start
        refine brn (fun h => ?_) (fun h => ?_)
        · have hpos : 0 < r.length := List.length_pos_iff.mpr h
          replace xw := sn _ _ xw
          replace d13 := fun x hx => (d13 x hx).same sn
          replace tt13 := tt13.same sn
          replace er13 := sn _ _ er13
          replace a13 := sn _ _ a13
          replace s13 := s13.trans sn
          clear nn sn
          generalize (upd H13 pn (.lst [])) = H14 at *
          tb_start
          intro y1 ms15 H15 hy1 hms15 a15 b15
          replace xw := b15 _ _ hw1 xw
          replace d13 := fun x hx => (d13 x hx).but (.inl Bar1.self) b15
          replace tt13 := tt13.but (.inl Bar1.self) b15
          replace er13 := b15 _ _ hr1 er13
          replace s13 := same_but b15 n2 s13
          clear a13 b15
          tb_start
          intro y2 ms16 H16 hy2 hms16 a16 b16
          replace xw := b16 _ _ hw1 xw
          replace d13 := fun x hx => (d13 x hx).but (.inl Bar1.self) b16
          replace tt13 := tt13.but (.inl Bar1.self) b16
          replace er13 := b16 _ _ hr1 er13
          replace s13 := same_but b16 n2 s13
          clear a15 b16
          have hk0 : 0 ≤ y1 % (r.length : Int) := Int.emod_nonneg _ (by omega)
          have hk1 : y1 % (r.length : Int) < r.length := Int.emod_lt_of_pos _ (by omega)
          have hj0 : 0 ≤ y2 % (r.length : Int) := Int.emod_nonneg _ (by omega)
          have hj1 : y2 % (r.length : Int) < r.length := Int.emod_lt_of_pos _ (by omega)
          have hat := at_int' (ns := r) hj0 hj1
          have l1 : (r.take (y1 % (r.length : Int)).toNat).length ≤ 300 := by rw [List.length_take]; omega
          have l2 : (r.drop (y1 % (r.length : Int) + 1).toNat).length ≤ 300 := by rw [List.length_drop]; omega
          tb_start
          intro q1 nq1
          have fq1w : q1 ≠ w := fun z => by rw [z, xw] at nq1; cases nq1
          generalize hX : (upd _ q1 _) = Hq1
          have sw : Same H16 Hq1 := by rw [← hX]; exact same_new nq1
          have xq1 : Hq1 q1 = some (.lst ((r.take (y1 % (r.length : Int)).toNat).map V.int)) := by rw [← hX]; exact lst_cast upd_same (cutI_to _ hk0)
          replace xw := sw _ _ xw
          replace d13 := fun x hx => (d13 x hx).same sw
          replace tt13 := tt13.same sw
          replace er13 := sw _ _ er13
          replace s13 := s13.trans sw
          replace a16 := sw _ _ a16
          clear hX sw nq1
          tb_start
          intro q2 nq2
          generalize hX : (upd _ q2 _) = Hq2
          have sw : Same Hq1 Hq2 := by rw [← hX]; exact same_new nq2
          have xq2 : Hq2 q2 = some (.lst ([V.int (r.getD (y2 % (r.length : Int)).toNat 0)])) := by rw [← hX]; exact upd_same
          replace xw := sw _ _ xw
          replace d13 := fun x hx => (d13 x hx).same sw
          replace tt13 := tt13.same sw
          replace er13 := sw _ _ er13
          replace s13 := s13.trans sw
          replace a16 := sw _ _ a16
          replace xq1 := sw _ _ xq1
          clear hX sw nq2
          tb_start
          intro q3 nq3
          generalize hX : (upd _ q3 _) = Hq3
          have sw : Same Hq2 Hq3 := by rw [← hX]; exact same_new nq3
          have xq3 : Hq3 q3 = some (.lst ((r.take (y1 % (r.length : Int)).toNat ++ [r.getD (y2 % (r.length : Int)).toNat 0]).map V.int)) := by rw [← hX]; exact lst_cast upd_same (by rw [List.map_append]; rfl)
          replace xw := sw _ _ xw
          replace d13 := fun x hx => (d13 x hx).same sw
          replace tt13 := tt13.same sw
          replace er13 := sw _ _ er13
          replace s13 := s13.trans sw
          replace a16 := sw _ _ a16
          replace xq1 := sw _ _ xq1
          replace xq2 := sw _ _ xq2
          clear hX sw nq3
          have l3 : (r.take (y1 % (r.length : Int)).toNat ++ [r.getD (y2 % (r.length : Int)).toNat 0]).length ≤ 301 := by rw [List.length_append]; show _ + 1 ≤ _; omega
          tb_start
          intro q4 nq4
          generalize hX : (upd _ q4 _) = Hq4
          have sw : Same Hq3 Hq4 := by rw [← hX]; exact same_new nq4
          have xq4 : Hq4 q4 = some (.lst ((r.drop ((y1 % (r.length : Int)) + 1).toNat).map V.int)) := by rw [← hX]; exact lst_cast upd_same (cutI_from _ (by omega))
          replace xw := sw _ _ xw
          replace d13 := fun x hx => (d13 x hx).same sw
          replace tt13 := tt13.same sw
          replace er13 := sw _ _ er13
          replace s13 := s13.trans sw
          replace a16 := sw _ _ a16
          replace xq1 := sw _ _ xq1
          replace xq2 := sw _ _ xq2
          replace xq3 := sw _ _ xq3
          clear hX sw nq4
          tb_start
          intro q5 nq5
          generalize hX : (upd _ q5 _) = Hq5
          have sw : Same Hq4 Hq5 := by rw [← hX]; exact same_new nq5
          have xq5 : Hq5 q5 = some (.lst ((r.take (y1 % (r.length : Int)).toNat ++ [r.getD (y2 % (r.length : Int)).toNat 0] ++ r.drop ((y1 % (r.length : Int)) + 1).toNat).map V.int)) := by rw [← hX]; exact lst_cast upd_same (by rw [List.map_append (l₁ := r.take (y1 % (r.length : Int)).toNat ++ [r.getD (y2 % (r.length : Int)).toNat 0])])
          replace xw := sw _ _ xw
          replace d13 := fun x hx => (d13 x hx).same sw
          replace tt13 := tt13.same sw
          replace er13 := sw _ _ er13
          replace s13 := s13.trans sw
          replace a16 := sw _ _ a16
          replace xq1 := sw _ _ xq1
          replace xq2 := sw _ _ xq2
          replace xq3 := sw _ _ xq3
          replace xq4 := sw _ _ xq4
          clear hX sw nq5
          have l5 : (r.take (y1 % (r.length : Int)).toNat ++ [r.getD (y2 % (r.length : Int)).toNat 0] ++ r.drop ((y1 % (r.length : Int)) + 1).toNat).length ≤ 300 := by rw [List.length_append, List.length_append, List.length_take, List.length_drop]; show _ + 1 + _ ≤ _; omega
          generalize r.take (y1 % (r.length : Int)).toNat ++ [r.getD (y2 % (r.length : Int)).toNat 0] ++ r.drop ((y1 % (r.length : Int)) + 1).toNat = rr at xq5 l5
          clear xq1 xq2 xq3 xq4
          tb_start
          intro pz lz HZ ez hlz hLz sz nz
          have rz : RowsF HZ lz (rr.length + 1) (lineW rr) := ⟨hlz, fun f l e => (hLz f l e).1⟩
          have xwz := sz _ _ xw
          have dz := fun x hx => (d13 x hx).same sz
          have ttz := tt13.same sz
          have s1z := s13.trans sz
          have old5 : Old (fun b => Bar1 p1 b ∨ b = w) Hq5 := Old.bar (Bar1.old a16) xw
          have oz : OD (fun b => Bar1 p1 b ∨ b = w) HZ (.ref pz) := (Tb.rows ez rz l5 (old5.free nz) (fun l hm => by
            obtain ⟨k, hk⟩ := List.mem_iff_getElem?.mp hm
            exact old5.free (hLz k l hk).2)).od
          clear xw d13 tt13 s13 sz nz hLz ez hlz
          tb_start
          have bw : But w HZ (upd HZ w (.lst (zs ++ [V.ref pz]))) := fun x o e h => by rw [upd_ne e]; exact h
          exact ⟨zs ++ [V.ref pz], ms, _, _, _, _, rfl, upd_same, by rw [List.length_append]; show _ + 1 ≤ _; omega, fa_app (fun x hx => (dz x hx).but (.inr rfl) bw) (fa_cons (oz.but (.inr rfl) bw) fa_nil), ttz.but (.inr rfl) bw, same_but bw nw1 s1z⟩
        · tb_start
          exact ⟨zs, ms, _, _, _, _, rfl, sn _ _ xw, by omega, fun x hx => (d13 x hx).same sn, tt13.same sn, s13.trans sn⟩
      rintro σ H17 ⟨zs, ms17, u7, u8, u9, u10, rfl, xw17, k17, d17, tt17, s17⟩
      have ht17 := tt17.at_
      have ot17 := tt17.od
      clear d13 tt13 er13 a13 s13 xw hms13
      have d17' := fun x hx => (d17 x hx).less (M := Bar0) (fun _ z => z.elim)
      have ot17' := ot17.less (M := Bar0) (fun _ z => z.elim)
      skip
      clear d17 ot17 tt17
      tb_start
      intro q1 nq1
      have sw1 : Same H17 (upd H17 q1 (.lst [.ref pt])) := same_new nq1
      have xq1 : (upd H17 q1 (.lst [.ref pt])) q1 = some (.lst [.ref pt]) := upd_same
      have xw1 := sw1 _ _ xw17
      tb_start
      intro q2 nq2
      generalize hX : (upd _ q2 _) = H18
      have sw2 : Same (upd H17 q1 (.lst [.ref pt])) H18 := by rw [← hX]; exact same_new nq2
      have xq2 : H18 q2 = some (.lst (zs ++ [V.ref pt])) := by rw [← hX]; exact upd_same
      have s18 := sw1.trans sw2
      have s118 := s17.trans s18
      have d18 : ∀ x ∈ zs ++ [V.ref pt], OD Bar0 H18 x := fa_app (fun x hx => (d17' x hx).same s18) (fa_cons (ot17'.same s18) fa_nil)
      have l18 : (zs ++ [V.ref pt]).length ≤ 6 := by rw [List.length_append]; show _ + 1 ≤ _; omega
      generalize zs ++ [V.ref pt] = ws at xq2 d18 l18
      clear hX nq1 nq2 xq1 xw1 xw17 d17' ot17' sw1 sw2 s18 ht17
      tb_start
      refine for_list (xs := ws) (fun j σ H' => Iv (∃ (u9 u10 : Option V), σ = [some (.ref a), some (.int (0 + (i : Int))), some (.ref p1), some (.ref pr), some (.ref pt), some (.ref po), some (.ref w), u7, u8, u9, u10] ∧ Same H18 H')) ?t0 ?tl ?ts ?td
      case t0 => exact ⟨_, _, rfl, Same.refl _⟩
      case tl =>
        rintro j σ H9 hj ⟨u9, u10, rfl, s9⟩
        exact SqL.of (s9 _ _ xq2)
      case ts =>
        rintro j x σ H9 hx ⟨u9, u10, rfl, s9⟩
        have bx := (d18 x (List.mem_of_getElem? hx)).same s9
        have tx := bx.tt
        have lx := bx.len
        clear bx
        tb_start
        intro H10 s10
        tb_start
        exact ⟨_, _, rfl, s9.trans s10⟩
      case td =>
        rintro σ H9 ⟨u9, u10, rfl, s9⟩
        exact ⟨_, _, _, _, _, _, _, _, _, _, rfl, s1.trans (s118.trans s9)⟩
end
end Ur
namespace Ur
open PySem L2
theorem all_mk {l : PySem.W.OpenLaw} {w : World} {K : PySem.W.Frag} {h : Heap} {mg : Str → Option Value} {fa : Addr} {c_NoTable c_RowError c_NoCommand c_NoNeeds c_NoPlace c_NoRow c_NoWindow : Addr} (X : K.In h) (G : h.Ns mainGlobals mg) (hfa : mg "law" = some (.ref fa))
    {f__law_lines : Addr} {oc__law_lines kV__law_lines dc__law_lines pm__law_lines cd__law_lines ct__law_lines : Value} {od__law_lines an__law_lines : Option Addr} {sl__law_lines : Array (Option Value)}
    {f__law_next : Addr} {oc__law_next kV__law_next dc__law_next pm__law_next cd__law_next ct__law_next : Value} {od__law_next an__law_next : Option Addr} {sl__law_next : Array (Option Value)}
    {f__law_lines_otherwise : Addr} {oc__law_lines_otherwise kV__law_lines_otherwise dc__law_lines_otherwise pm__law_lines_otherwise cd__law_lines_otherwise ct__law_lines_otherwise : Value} {od__law_lines_otherwise an__law_lines_otherwise : Option Addr} {sl__law_lines_otherwise : Array (Option Value)}
    {f__law_mixed : Addr} {oc__law_mixed kV__law_mixed dc__law_mixed pm__law_mixed cd__law_mixed ct__law_mixed : Value} {od__law_mixed an__law_mixed : Option Addr} {sl__law_mixed : Array (Option Value)}
    {f__law_purse : Addr} {oc__law_purse kV__law_purse dc__law_purse pm__law_purse cd__law_purse ct__law_purse : Value} {od__law_purse an__law_purse : Option Addr} {sl__law_purse : Array (Option Value)}
    {f__law_most : Addr} {oc__law_most kV__law_most dc__law_most pm__law_most cd__law_most ct__law_most : Value} {od__law_most an__law_most : Option Addr} {sl__law_most : Array (Option Value)}
    {f__law_with : Addr} {oc__law_with kV__law_with dc__law_with pm__law_with cd__law_with ct__law_with : Value} {od__law_with an__law_with : Option Addr} {sl__law_with : Array (Option Value)}
    {f__law_one_otherwise : Addr} {oc__law_one_otherwise kV__law_one_otherwise dc__law_one_otherwise pm__law_one_otherwise cd__law_one_otherwise ct__law_one_otherwise : Value} {od__law_one_otherwise an__law_one_otherwise : Option Addr} {sl__law_one_otherwise : Array (Option Value)}
    {f_is_whole_lasts : Addr} {oc_is_whole_lasts kV_is_whole_lasts dc_is_whole_lasts pm_is_whole_lasts cd_is_whole_lasts ct_is_whole_lasts : Value} {od_is_whole_lasts an_is_whole_lasts : Option Addr} {sl_is_whole_lasts : Array (Option Value)}
    {f_are_lasts : Addr} {oc_are_lasts kV_are_lasts dc_are_lasts pm_are_lasts cd_are_lasts ct_are_lasts : Value} {od_are_lasts an_are_lasts : Option Addr} {sl_are_lasts : Array (Option Value)}
    {f_is_whole_tables : Addr} {oc_is_whole_tables kV_is_whole_tables dc_is_whole_tables pm_is_whole_tables cd_is_whole_tables ct_is_whole_tables : Value} {od_is_whole_tables an_is_whole_tables : Option Addr} {sl_is_whole_tables : Array (Option Value)}
    {f_is_shaped : Addr} {oc_is_shaped kV_is_shaped dc_is_shaped pm_is_shaped cd_is_shaped ct_is_shaped : Value} {od_is_shaped an_is_shaped : Option Addr} {sl_is_shaped : Array (Option Value)}
    {f_lasts_by : Addr} {oc_lasts_by kV_lasts_by dc_lasts_by pm_lasts_by cd_lasts_by ct_lasts_by : Value} {od_lasts_by an_lasts_by : Option Addr} {sl_lasts_by : Array (Option Value)}
    {f_row_of : Addr} {oc_row_of kV_row_of dc_row_of pm_row_of cd_row_of ct_row_of : Value} {od_row_of an_row_of : Option Addr} {sl_row_of : Array (Option Value)}
    {f_line_of : Addr} {oc_line_of kV_line_of dc_line_of pm_line_of cd_line_of ct_line_of : Value} {od_line_of an_line_of : Option Addr} {sl_line_of : Array (Option Value)}
    {f_table_of : Addr} {oc_table_of kV_table_of dc_table_of pm_table_of cd_table_of ct_table_of : Value} {od_table_of an_table_of : Option Addr} {sl_table_of : Array (Option Value)}
    {f_row_of_table : Addr} {oc_row_of_table kV_row_of_table dc_row_of_table pm_row_of_table cd_row_of_table ct_row_of_table : Value} {od_row_of_table an_row_of_table : Option Addr} {sl_row_of_table : Array (Option Value)}
    {f__law_asked : Addr} {oc__law_asked kV__law_asked dc__law_asked pm__law_asked cd__law_asked ct__law_asked : Value} {od__law_asked an__law_asked : Option Addr} {sl__law_asked : Array (Option Value)}
    {f__law_is_list : Addr} {oc__law_is_list kV__law_is_list dc__law_is_list pm__law_is_list cd__law_is_list ct__law_is_list : Value} {od__law_is_list an__law_is_list : Option Addr} {sl__law_is_list : Array (Option Value)}
    {f__law_plain : Addr} {oc__law_plain kV__law_plain dc__law_plain pm__law_plain cd__law_plain ct__law_plain : Value} {od__law_plain an__law_plain : Option Addr} {sl__law_plain : Array (Option Value)}
    {f__law_row_of : Addr} {oc__law_row_of kV__law_row_of dc__law_row_of pm__law_row_of cd__law_row_of ct__law_row_of : Value} {od__law_row_of an__law_row_of : Option Addr} {sl__law_row_of : Array (Option Value)}
    {f__law_right : Addr} {oc__law_right kV__law_right dc__law_right pm__law_right cd__law_right ct__law_right : Value} {od__law_right an__law_right : Option Addr} {sl__law_right : Array (Option Value)}
    {f__law_value : Addr} {oc__law_value kV__law_value dc__law_value pm__law_value cd__law_value ct__law_value : Value} {od__law_value an__law_value : Option Addr} {sl__law_value : Array (Option Value)}
    {f__law_row : Addr} {oc__law_row kV__law_row dc__law_row pm__law_row cd__law_row ct__law_row : Value} {od__law_row an__law_row : Option Addr} {sl__law_row : Array (Option Value)}
    {f_law : Addr} {oc_law kV_law dc_law pm_law cd_law ct_law : Value} {od_law an_law : Option Addr} {sl_law : Array (Option Value)}
    (aC_NoTable : PySem.W.nsIn K mainGlobals "NoTable" = some (some (.ref c_NoTable)))
    (aC_RowError : PySem.W.nsIn K mainGlobals "RowError" = some (some (.ref c_RowError)))
    (aC_NoCommand : PySem.W.nsIn K mainGlobals "NoCommand" = some (some (.ref c_NoCommand)))
    (aC_NoNeeds : PySem.W.nsIn K mainGlobals "NoNeeds" = some (some (.ref c_NoNeeds)))
    (aC_NoPlace : PySem.W.nsIn K mainGlobals "NoPlace" = some (some (.ref c_NoPlace)))
    (aC_NoRow : PySem.W.nsIn K mainGlobals "NoRow" = some (some (.ref c_NoRow)))
    (aC_NoWindow : PySem.W.nsIn K mainGlobals "NoWindow" = some (some (.ref c_NoWindow)))
    (a__law_lines : PySem.W.nsIn K mainGlobals "_law_lines" = some (some (.ref f__law_lines)))
    (l__law_lines : K.lookup f__law_lines = some ⟨oc__law_lines, od__law_lines, .func (PySem.W.fnOf "_law_lines" "_law_lines" (defArgs s__law_lines) (defBody s__law_lines) (defScope s__law_lines) .none kV__law_lines dc__law_lines pm__law_lines an__law_lines cd__law_lines ct__law_lines), sl__law_lines⟩)
    (q__law_lines : PySem.W.codeIn K cd__law_lines "_law_lines" = true)
    (k__law_lines : PySem.W.keepIn K (.ref f__law_lines) = true)
    (a__law_next : PySem.W.nsIn K mainGlobals "_law_next" = some (some (.ref f__law_next)))
    (l__law_next : K.lookup f__law_next = some ⟨oc__law_next, od__law_next, .func (PySem.W.fnOf "_law_next" "_law_next" (defArgs s__law_next) (defBody s__law_next) (defScope s__law_next) .none kV__law_next dc__law_next pm__law_next an__law_next cd__law_next ct__law_next), sl__law_next⟩)
    (q__law_next : PySem.W.codeIn K cd__law_next "_law_next" = true)
    (k__law_next : PySem.W.keepIn K (.ref f__law_next) = true)
    (a__law_lines_otherwise : PySem.W.nsIn K mainGlobals "_law_lines_otherwise" = some (some (.ref f__law_lines_otherwise)))
    (l__law_lines_otherwise : K.lookup f__law_lines_otherwise = some ⟨oc__law_lines_otherwise, od__law_lines_otherwise, .func (PySem.W.fnOf "_law_lines_otherwise" "_law_lines_otherwise" (defArgs s__law_lines_otherwise) (defBody s__law_lines_otherwise) (defScope s__law_lines_otherwise) .none kV__law_lines_otherwise dc__law_lines_otherwise pm__law_lines_otherwise an__law_lines_otherwise cd__law_lines_otherwise ct__law_lines_otherwise), sl__law_lines_otherwise⟩)
    (q__law_lines_otherwise : PySem.W.codeIn K cd__law_lines_otherwise "_law_lines_otherwise" = true)
    (k__law_lines_otherwise : PySem.W.keepIn K (.ref f__law_lines_otherwise) = true)
    (a__law_mixed : PySem.W.nsIn K mainGlobals "_law_mixed" = some (some (.ref f__law_mixed)))
    (l__law_mixed : K.lookup f__law_mixed = some ⟨oc__law_mixed, od__law_mixed, .func (PySem.W.fnOf "_law_mixed" "_law_mixed" (defArgs s__law_mixed) (defBody s__law_mixed) (defScope s__law_mixed) .none kV__law_mixed dc__law_mixed pm__law_mixed an__law_mixed cd__law_mixed ct__law_mixed), sl__law_mixed⟩)
    (q__law_mixed : PySem.W.codeIn K cd__law_mixed "_law_mixed" = true)
    (k__law_mixed : PySem.W.keepIn K (.ref f__law_mixed) = true)
    (a__law_purse : PySem.W.nsIn K mainGlobals "_law_purse" = some (some (.ref f__law_purse)))
    (l__law_purse : K.lookup f__law_purse = some ⟨oc__law_purse, od__law_purse, .func (PySem.W.fnOf "_law_purse" "_law_purse" (defArgs s__law_purse) (defBody s__law_purse) (defScope s__law_purse) .none kV__law_purse dc__law_purse pm__law_purse an__law_purse cd__law_purse ct__law_purse), sl__law_purse⟩)
    (q__law_purse : PySem.W.codeIn K cd__law_purse "_law_purse" = true)
    (k__law_purse : PySem.W.keepIn K (.ref f__law_purse) = true)
    (a__law_most : PySem.W.nsIn K mainGlobals "_law_most" = some (some (.ref f__law_most)))
    (l__law_most : K.lookup f__law_most = some ⟨oc__law_most, od__law_most, .func (PySem.W.fnOf "_law_most" "_law_most" (defArgs s__law_most) (defBody s__law_most) (defScope s__law_most) .none kV__law_most dc__law_most pm__law_most an__law_most cd__law_most ct__law_most), sl__law_most⟩)
    (q__law_most : PySem.W.codeIn K cd__law_most "_law_most" = true)
    (k__law_most : PySem.W.keepIn K (.ref f__law_most) = true)
    (a__law_with : PySem.W.nsIn K mainGlobals "_law_with" = some (some (.ref f__law_with)))
    (l__law_with : K.lookup f__law_with = some ⟨oc__law_with, od__law_with, .func (PySem.W.fnOf "_law_with" "_law_with" (defArgs s__law_with) (defBody s__law_with) (defScope s__law_with) .none kV__law_with dc__law_with pm__law_with an__law_with cd__law_with ct__law_with), sl__law_with⟩)
    (q__law_with : PySem.W.codeIn K cd__law_with "_law_with" = true)
    (k__law_with : PySem.W.keepIn K (.ref f__law_with) = true)
    (a__law_one_otherwise : PySem.W.nsIn K mainGlobals "_law_one_otherwise" = some (some (.ref f__law_one_otherwise)))
    (l__law_one_otherwise : K.lookup f__law_one_otherwise = some ⟨oc__law_one_otherwise, od__law_one_otherwise, .func (PySem.W.fnOf "_law_one_otherwise" "_law_one_otherwise" (defArgs s__law_one_otherwise) (defBody s__law_one_otherwise) (defScope s__law_one_otherwise) .none kV__law_one_otherwise dc__law_one_otherwise pm__law_one_otherwise an__law_one_otherwise cd__law_one_otherwise ct__law_one_otherwise), sl__law_one_otherwise⟩)
    (q__law_one_otherwise : PySem.W.codeIn K cd__law_one_otherwise "_law_one_otherwise" = true)
    (k__law_one_otherwise : PySem.W.keepIn K (.ref f__law_one_otherwise) = true)
    (a_is_whole_lasts : PySem.W.nsIn K mainGlobals "is_whole_lasts" = some (some (.ref f_is_whole_lasts)))
    (l_is_whole_lasts : K.lookup f_is_whole_lasts = some ⟨oc_is_whole_lasts, od_is_whole_lasts, .func (PySem.W.fnOf "is_whole" "is_whole" (defArgs s_is_whole_lasts) (defBody s_is_whole_lasts) (defScope s_is_whole_lasts) .none kV_is_whole_lasts dc_is_whole_lasts pm_is_whole_lasts an_is_whole_lasts cd_is_whole_lasts ct_is_whole_lasts), sl_is_whole_lasts⟩)
    (q_is_whole_lasts : PySem.W.codeIn K cd_is_whole_lasts "is_whole" = true)
    (k_is_whole_lasts : PySem.W.keepIn K (.ref f_is_whole_lasts) = true)
    (a_are_lasts : PySem.W.nsIn K mainGlobals "are_lasts" = some (some (.ref f_are_lasts)))
    (l_are_lasts : K.lookup f_are_lasts = some ⟨oc_are_lasts, od_are_lasts, .func (PySem.W.fnOf "are_lasts" "are_lasts" (defArgs s_are_lasts) (defBody s_are_lasts) (defScope s_are_lasts) .none kV_are_lasts dc_are_lasts pm_are_lasts an_are_lasts cd_are_lasts ct_are_lasts), sl_are_lasts⟩)
    (q_are_lasts : PySem.W.codeIn K cd_are_lasts "are_lasts" = true)
    (k_are_lasts : PySem.W.keepIn K (.ref f_are_lasts) = true)
    (a_is_whole_tables : PySem.W.nsIn K mainGlobals "is_whole_tables" = some (some (.ref f_is_whole_tables)))
    (l_is_whole_tables : K.lookup f_is_whole_tables = some ⟨oc_is_whole_tables, od_is_whole_tables, .func (PySem.W.fnOf "is_whole" "is_whole" (defArgs s_is_whole_tables) (defBody s_is_whole_tables) (defScope s_is_whole_tables) .none kV_is_whole_tables dc_is_whole_tables pm_is_whole_tables an_is_whole_tables cd_is_whole_tables ct_is_whole_tables), sl_is_whole_tables⟩)
    (q_is_whole_tables : PySem.W.codeIn K cd_is_whole_tables "is_whole" = true)
    (k_is_whole_tables : PySem.W.keepIn K (.ref f_is_whole_tables) = true)
    (a_is_shaped : PySem.W.nsIn K mainGlobals "is_shaped" = some (some (.ref f_is_shaped)))
    (l_is_shaped : K.lookup f_is_shaped = some ⟨oc_is_shaped, od_is_shaped, .func (PySem.W.fnOf "is_shaped" "is_shaped" (defArgs s_is_shaped) (defBody s_is_shaped) (defScope s_is_shaped) .none kV_is_shaped dc_is_shaped pm_is_shaped an_is_shaped cd_is_shaped ct_is_shaped), sl_is_shaped⟩)
    (q_is_shaped : PySem.W.codeIn K cd_is_shaped "is_shaped" = true)
    (k_is_shaped : PySem.W.keepIn K (.ref f_is_shaped) = true)
    (a_lasts_by : PySem.W.nsIn K mainGlobals "lasts_by" = some (some (.ref f_lasts_by)))
    (l_lasts_by : K.lookup f_lasts_by = some ⟨oc_lasts_by, od_lasts_by, .func (PySem.W.fnOf "lasts_by" "lasts_by" (defArgs s_lasts_by) (defBody s_lasts_by) (defScope s_lasts_by) .none kV_lasts_by dc_lasts_by pm_lasts_by an_lasts_by cd_lasts_by ct_lasts_by), sl_lasts_by⟩)
    (q_lasts_by : PySem.W.codeIn K cd_lasts_by "lasts_by" = true)
    (k_lasts_by : PySem.W.keepIn K (.ref f_lasts_by) = true)
    (a_row_of : PySem.W.nsIn K mainGlobals "row_of" = some (some (.ref f_row_of)))
    (l_row_of : K.lookup f_row_of = some ⟨oc_row_of, od_row_of, .func (PySem.W.fnOf "row_of" "row_of" (defArgs s_row_of) (defBody s_row_of) (defScope s_row_of) .none kV_row_of dc_row_of pm_row_of an_row_of cd_row_of ct_row_of), sl_row_of⟩)
    (q_row_of : PySem.W.codeIn K cd_row_of "row_of" = true)
    (k_row_of : PySem.W.keepIn K (.ref f_row_of) = true)
    (a_line_of : PySem.W.nsIn K mainGlobals "line_of" = some (some (.ref f_line_of)))
    (l_line_of : K.lookup f_line_of = some ⟨oc_line_of, od_line_of, .func (PySem.W.fnOf "line_of" "line_of" (defArgs s_line_of) (defBody s_line_of) (defScope s_line_of) .none kV_line_of dc_line_of pm_line_of an_line_of cd_line_of ct_line_of), sl_line_of⟩)
    (q_line_of : PySem.W.codeIn K cd_line_of "line_of" = true)
    (k_line_of : PySem.W.keepIn K (.ref f_line_of) = true)
    (a_table_of : PySem.W.nsIn K mainGlobals "table_of" = some (some (.ref f_table_of)))
    (l_table_of : K.lookup f_table_of = some ⟨oc_table_of, od_table_of, .func (PySem.W.fnOf "table_of" "table_of" (defArgs s_table_of) (defBody s_table_of) (defScope s_table_of) .none kV_table_of dc_table_of pm_table_of an_table_of cd_table_of ct_table_of), sl_table_of⟩)
    (q_table_of : PySem.W.codeIn K cd_table_of "table_of" = true)
    (k_table_of : PySem.W.keepIn K (.ref f_table_of) = true)
    (a_row_of_table : PySem.W.nsIn K mainGlobals "row_of_table" = some (some (.ref f_row_of_table)))
    (l_row_of_table : K.lookup f_row_of_table = some ⟨oc_row_of_table, od_row_of_table, .func (PySem.W.fnOf "row_of_table" "row_of_table" (defArgs s_row_of_table) (defBody s_row_of_table) (defScope s_row_of_table) .none kV_row_of_table dc_row_of_table pm_row_of_table an_row_of_table cd_row_of_table ct_row_of_table), sl_row_of_table⟩)
    (q_row_of_table : PySem.W.codeIn K cd_row_of_table "row_of_table" = true)
    (k_row_of_table : PySem.W.keepIn K (.ref f_row_of_table) = true)
    (a__law_asked : PySem.W.nsIn K mainGlobals "_law_asked" = some (some (.ref f__law_asked)))
    (l__law_asked : K.lookup f__law_asked = some ⟨oc__law_asked, od__law_asked, .func (PySem.W.fnOf "_law_asked" "_law_asked" (defArgs s__law_asked) (defBody s__law_asked) (defScope s__law_asked) .none kV__law_asked dc__law_asked pm__law_asked an__law_asked cd__law_asked ct__law_asked), sl__law_asked⟩)
    (q__law_asked : PySem.W.codeIn K cd__law_asked "_law_asked" = true)
    (k__law_asked : PySem.W.keepIn K (.ref f__law_asked) = true)
    (a__law_is_list : PySem.W.nsIn K mainGlobals "_law_is_list" = some (some (.ref f__law_is_list)))
    (l__law_is_list : K.lookup f__law_is_list = some ⟨oc__law_is_list, od__law_is_list, .func (PySem.W.fnOf "_law_is_list" "_law_is_list" (defArgs s__law_is_list) (defBody s__law_is_list) (defScope s__law_is_list) .none kV__law_is_list dc__law_is_list pm__law_is_list an__law_is_list cd__law_is_list ct__law_is_list), sl__law_is_list⟩)
    (q__law_is_list : PySem.W.codeIn K cd__law_is_list "_law_is_list" = true)
    (k__law_is_list : PySem.W.keepIn K (.ref f__law_is_list) = true)
    (a__law_plain : PySem.W.nsIn K mainGlobals "_law_plain" = some (some (.ref f__law_plain)))
    (l__law_plain : K.lookup f__law_plain = some ⟨oc__law_plain, od__law_plain, .func (PySem.W.fnOf "_law_plain" "_law_plain" (defArgs s__law_plain) (defBody s__law_plain) (defScope s__law_plain) .none kV__law_plain dc__law_plain pm__law_plain an__law_plain cd__law_plain ct__law_plain), sl__law_plain⟩)
    (q__law_plain : PySem.W.codeIn K cd__law_plain "_law_plain" = true)
    (k__law_plain : PySem.W.keepIn K (.ref f__law_plain) = true)
    (a__law_row_of : PySem.W.nsIn K mainGlobals "_law_row_of" = some (some (.ref f__law_row_of)))
    (l__law_row_of : K.lookup f__law_row_of = some ⟨oc__law_row_of, od__law_row_of, .func (PySem.W.fnOf "_law_row_of" "_law_row_of" (defArgs s__law_row_of) (defBody s__law_row_of) (defScope s__law_row_of) .none kV__law_row_of dc__law_row_of pm__law_row_of an__law_row_of cd__law_row_of ct__law_row_of), sl__law_row_of⟩)
    (q__law_row_of : PySem.W.codeIn K cd__law_row_of "_law_row_of" = true)
    (k__law_row_of : PySem.W.keepIn K (.ref f__law_row_of) = true)
    (a__law_right : PySem.W.nsIn K mainGlobals "_law_right" = some (some (.ref f__law_right)))
    (l__law_right : K.lookup f__law_right = some ⟨oc__law_right, od__law_right, .func (PySem.W.fnOf "_law_right" "_law_right" (defArgs s__law_right) (defBody s__law_right) (defScope s__law_right) .none kV__law_right dc__law_right pm__law_right an__law_right cd__law_right ct__law_right), sl__law_right⟩)
    (q__law_right : PySem.W.codeIn K cd__law_right "_law_right" = true)
    (k__law_right : PySem.W.keepIn K (.ref f__law_right) = true)
    (a__law_value : PySem.W.nsIn K mainGlobals "_law_value" = some (some (.ref f__law_value)))
    (l__law_value : K.lookup f__law_value = some ⟨oc__law_value, od__law_value, .func (PySem.W.fnOf "_law_value" "_law_value" (defArgs s__law_value) (defBody s__law_value) (defScope s__law_value) .none kV__law_value dc__law_value pm__law_value an__law_value cd__law_value ct__law_value), sl__law_value⟩)
    (q__law_value : PySem.W.codeIn K cd__law_value "_law_value" = true)
    (k__law_value : PySem.W.keepIn K (.ref f__law_value) = true)
    (a__law_row : PySem.W.nsIn K mainGlobals "_law_row" = some (some (.ref f__law_row)))
    (l__law_row : K.lookup f__law_row = some ⟨oc__law_row, od__law_row, .func (PySem.W.fnOf "_law_row" "_law_row" (defArgs s__law_row) (defBody s__law_row) (defScope s__law_row) .none kV__law_row dc__law_row pm__law_row an__law_row cd__law_row ct__law_row), sl__law_row⟩)
    (q__law_row : PySem.W.codeIn K cd__law_row "_law_row" = true)
    (k__law_row : PySem.W.keepIn K (.ref f__law_row) = true)
    (a_law : PySem.W.nsIn K mainGlobals "law" = some (some (.ref f_law)))
    (l_law : K.lookup f_law = some ⟨oc_law, od_law, .func (PySem.W.fnOf "law" "law" (defArgs s_law) (defBody s_law) (defScope s_law) .none kV_law dc_law pm_law an_law cd_law ct_law), sl_law⟩)
    (q_law : PySem.W.codeIn K cd_law "law" = true)
    (k_law : PySem.W.keepIn K (.ref f_law) = true)
    (x_NoTable : PySem.W.excIn K c_NoTable [.type "ValueError", .type "Exception", .type "BaseException", .type "object"] "ValueError.__new__" = true)
    (k_NoTable : PySem.W.keepIn K (.ref c_NoTable) = true)
    (b_NoTable : PySem.W.subIn K (.ref c_NoTable) (.type "BaseException") = some true)
    (t_NoTable : PySem.W.typeIn K (.ref c_NoTable) = some (.type "type"))
    (h_NoTable : PySem.W.hasDictIn K c_NoTable = true)
    (b_RowError : PySem.W.subIn K (.ref c_RowError) (.type "BaseException") = some true)
    (t_RowError : PySem.W.typeIn K (.ref c_RowError) = some (.type "type"))
    (h_RowError : PySem.W.hasDictIn K c_RowError = true)
    (s_NoTable_RowError : PySem.W.subIn K (.ref c_NoTable) (.ref c_RowError) = some true)
    (q_NoTable_NoTable : PySem.W.kitOne K (.ref c_NoTable) (.ref c_NoTable) = some true)
    (q_NoTable_ValueError : PySem.W.kitOne K (.ref c_NoTable) (.type "ValueError") = some true)
    (q_NoTable_NoCommand : PySem.W.kitOne K (.ref c_NoTable) (.ref c_NoCommand) = some false)
    (q_NoTable_NoNeeds : PySem.W.kitOne K (.ref c_NoTable) (.ref c_NoNeeds) = some false)
    (q_NoTable_NoPlace : PySem.W.kitOne K (.ref c_NoTable) (.ref c_NoPlace) = some false)
    (q_NoTable_NoRow : PySem.W.kitOne K (.ref c_NoTable) (.ref c_NoRow) = some false)
    (q_NoTable_NoWindow : PySem.W.kitOne K (.ref c_NoTable) (.ref c_NoWindow) = some false)
    (Ehg_NoTable : PySem.W.findIn K (.ref c_NoTable) "__getattribute__" = some (some (.builtin "BaseException.__getattribute__")))
    (Ehk_NoTable : PySem.W.findIn K (.ref c_NoTable) "__getattr__" = some none)
    (Eha_NoTable : PySem.W.findIn K (.ref c_NoTable) "__class__" = some (some (.builtin "object.__class__")))
    (Ehm_NoTable : PySem.W.mroIn K c_NoTable (.type "object") = some true)
    (Ehn : PySem.W.specialIn K (.builtin "object.__class__") "__get__" = some (some (.builtin "getset_descriptor.__get__")))
    (Eht : PySem.W.takesIn K (.builtin "object.__class__") = some true)
    (z_ValueError : PySem.W.nsIn K mainGlobals "ValueError" = some none)
    (z_abs : PySem.W.nsIn K mainGlobals "abs" = some none)
    (z_all : PySem.W.nsIn K mainGlobals "all" = some none)
    (z_bool : PySem.W.nsIn K mainGlobals "bool" = some none)
    (z_enumerate : PySem.W.nsIn K mainGlobals "enumerate" = some none)
    (z_int : PySem.W.nsIn K mainGlobals "int" = some none)
    (z_isinstance : PySem.W.nsIn K mainGlobals "isinstance" = some none)
    (z_len : PySem.W.nsIn K mainGlobals "len" = some none)
    (z_list : PySem.W.nsIn K mainGlobals "list" = some none)
    (z_range : PySem.W.nsIn K mainGlobals "range" = some none)
    (z_repr : PySem.W.nsIn K mainGlobals "repr" = some none)
    (z_reversed : PySem.W.nsIn K mainGlobals "reversed" = some none)
    (z_set : PySem.W.nsIn K mainGlobals "set" = some none)
    (z_str : PySem.W.nsIn K mainGlobals "str" = some none)
    (z_tuple : PySem.W.nsIn K mainGlobals "tuple" = some none)
    : ∃ fd : FuncData, (∀ (s : Shared) (v : Value), BindsTo s fd ⟨[v], []⟩ [("script", v)]) ∧ ∀ base : Heap, K.In base → base.Ns mainGlobals mg → FnG l.prog w K mg base 7 fa fd ["script"] (sp_law K) := by
  have e0 := (PySem.W.mg_of X G a_law).symm.trans hfa
  have e : f_law = fa := by injection e0 with e0; injection e0
  subst e
  have F__law_lines := fun_mk (st := s__law_lines) l__law_lines q__law_lines k__law_lines
  have b__law_lines := F__law_lines.binds (ps := ["row"]) fun _ _ _ _ _ _ us hl => match us, hl with | [_], _ => rfl
  have F__law_next := fun_mk (st := s__law_next) l__law_next q__law_next k__law_next
  have b__law_next := F__law_next.binds (ps := ["purse"]) fun _ _ _ _ _ _ us hl => match us, hl with | [_], _ => rfl
  have F__law_lines_otherwise := fun_mk (st := s__law_lines_otherwise) l__law_lines_otherwise q__law_lines_otherwise k__law_lines_otherwise
  have b__law_lines_otherwise := F__law_lines_otherwise.binds (ps := ["purse", "table"]) fun _ _ _ _ _ _ us hl => match us, hl with | [_, _], _ => rfl
  have F__law_mixed := fun_mk (st := s__law_mixed) l__law_mixed q__law_mixed k__law_mixed
  have b__law_mixed := F__law_mixed.binds (ps := ["cell", "k"]) fun _ _ _ _ _ _ us hl => match us, hl with | [_, _], _ => rfl
  have F__law_purse := fun_mk (st := s__law_purse) l__law_purse q__law_purse k__law_purse
  have b__law_purse := F__law_purse.binds (ps := ["script", "at", "step", "many"]) fun _ _ _ _ _ _ us hl => match us, hl with | [_, _, _, _], _ => rfl
  have F__law_most := fun_mk (st := s__law_most) l__law_most q__law_most k__law_most
  have b__law_most := F__law_most.binds (ps := ["script", "k"]) fun _ _ _ _ _ _ us hl => match us, hl with | [_, _], _ => rfl
  have F__law_with := fun_mk (st := s__law_with) l__law_with q__law_with k__law_with
  have b__law_with := F__law_with.binds (ps := ["table", "first", "at", "thing"]) fun _ _ _ _ _ _ us hl => match us, hl with | [_, _, _, _], _ => rfl
  have F__law_one_otherwise := fun_mk (st := s__law_one_otherwise) l__law_one_otherwise q__law_one_otherwise k__law_one_otherwise
  have b__law_one_otherwise := F__law_one_otherwise.binds (ps := ["purse", "table"]) fun _ _ _ _ _ _ us hl => match us, hl with | [_, _], _ => rfl
  have F_is_whole_lasts := fun_mk (st := s_is_whole_lasts) l_is_whole_lasts q_is_whole_lasts k_is_whole_lasts
  have b_is_whole_lasts := F_is_whole_lasts.binds (ps := ["thing"]) fun _ _ _ _ _ _ us hl => match us, hl with | [_], _ => rfl
  have F_are_lasts := fun_mk (st := s_are_lasts) l_are_lasts q_are_lasts k_are_lasts
  have b_are_lasts := F_are_lasts.binds (ps := ["thing"]) fun _ _ _ _ _ _ us hl => match us, hl with | [_], _ => rfl
  have F_is_whole_tables := fun_mk (st := s_is_whole_tables) l_is_whole_tables q_is_whole_tables k_is_whole_tables
  have b_is_whole_tables := F_is_whole_tables.binds (ps := ["thing"]) fun _ _ _ _ _ _ us hl => match us, hl with | [_], _ => rfl
  have F_is_shaped := fun_mk (st := s_is_shaped) l_is_shaped q_is_shaped k_is_shaped
  have b_is_shaped := F_is_shaped.binds (ps := ["thing"]) fun _ _ _ _ _ _ us hl => match us, hl with | [_], _ => rfl
  have F_lasts_by := fun_mk (st := s_lasts_by) l_lasts_by q_lasts_by k_lasts_by
  have b_lasts_by := F_lasts_by.binds (ps := ["table"]) fun _ _ _ _ _ _ us hl => match us, hl with | [_], _ => rfl
  have F_row_of := fun_mk (st := s_row_of) l_row_of q_row_of k_row_of
  have b_row_of := F_row_of.binds (ps := ["lasts"]) fun _ _ _ _ _ _ us hl => match us, hl with | [_], _ => rfl
  have F_line_of := fun_mk (st := s_line_of) l_line_of q_line_of k_line_of
  have b_line_of := F_line_of.binds (ps := ["row"]) fun _ _ _ _ _ _ us hl => match us, hl with | [_], _ => rfl
  have F_table_of := fun_mk (st := s_table_of) l_table_of q_table_of k_table_of
  have b_table_of := F_table_of.binds (ps := ["row"]) fun _ _ _ _ _ _ us hl => match us, hl with | [_], _ => rfl
  have F_row_of_table := fun_mk (st := s_row_of_table) l_row_of_table q_row_of_table k_row_of_table
  have b_row_of_table := F_row_of_table.binds (ps := ["thing"]) fun _ _ _ _ _ _ us hl => match us, hl with | [_], _ => rfl
  have F__law_asked := fun_mk (st := s__law_asked) l__law_asked q__law_asked k__law_asked
  have b__law_asked := F__law_asked.binds (ps := ["thing"]) fun _ _ _ _ _ _ us hl => match us, hl with | [_], _ => rfl
  have F__law_is_list := fun_mk (st := s__law_is_list) l__law_is_list q__law_is_list k__law_is_list
  have b__law_is_list := F__law_is_list.binds (ps := ["thing", "size"]) fun _ _ _ _ _ _ us hl => match us, hl with | [_, _], _ => rfl
  have F__law_plain := fun_mk (st := s__law_plain) l__law_plain q__law_plain k__law_plain
  have b__law_plain := F__law_plain.binds (ps := ["row"]) fun _ _ _ _ _ _ us hl => match us, hl with | [_], _ => rfl
  have F__law_row_of := fun_mk (st := s__law_row_of) l__law_row_of q__law_row_of k__law_row_of
  have b__law_row_of := F__law_row_of.binds (ps := ["thing"]) fun _ _ _ _ _ _ us hl => match us, hl with | [_], _ => rfl
  have F__law_right := fun_mk (st := s__law_right) l__law_right q__law_right k__law_right
  have b__law_right := F__law_right.binds (ps := ["thing"]) fun _ _ _ _ _ _ us hl => match us, hl with | [_], _ => rfl
  have F__law_value := fun_mk (st := s__law_value) l__law_value q__law_value k__law_value
  have b__law_value := F__law_value.binds (ps := ["way", "at"]) fun _ _ _ _ _ _ us hl => match us, hl with | [_, _], _ => rfl
  have F__law_row := fun_mk (st := s__law_row) l__law_row q__law_row k__law_row
  have b__law_row := F__law_row.binds (ps := ["purse", "most"]) fun _ _ _ _ _ _ us hl => match us, hl with | [_, _], _ => rfl
  have F_law := fun_mk (st := s_law) l_law q_law k_law
  have b_law := F_law.binds (ps := ["script"]) fun _ _ _ _ _ _ us hl => match us, hl with | [_], _ => rfl
  have T : Txt K mg { f__law_lines := f__law_lines, d__law_lines := (PySem.W.fnOf "_law_lines" "_law_lines" (defArgs s__law_lines) (defBody s__law_lines) (defScope s__law_lines) .none kV__law_lines dc__law_lines pm__law_lines an__law_lines cd__law_lines ct__law_lines), f__law_next := f__law_next, d__law_next := (PySem.W.fnOf "_law_next" "_law_next" (defArgs s__law_next) (defBody s__law_next) (defScope s__law_next) .none kV__law_next dc__law_next pm__law_next an__law_next cd__law_next ct__law_next), f__law_lines_otherwise := f__law_lines_otherwise, d__law_lines_otherwise := (PySem.W.fnOf "_law_lines_otherwise" "_law_lines_otherwise" (defArgs s__law_lines_otherwise) (defBody s__law_lines_otherwise) (defScope s__law_lines_otherwise) .none kV__law_lines_otherwise dc__law_lines_otherwise pm__law_lines_otherwise an__law_lines_otherwise cd__law_lines_otherwise ct__law_lines_otherwise), f__law_mixed := f__law_mixed, d__law_mixed := (PySem.W.fnOf "_law_mixed" "_law_mixed" (defArgs s__law_mixed) (defBody s__law_mixed) (defScope s__law_mixed) .none kV__law_mixed dc__law_mixed pm__law_mixed an__law_mixed cd__law_mixed ct__law_mixed), f__law_purse := f__law_purse, d__law_purse := (PySem.W.fnOf "_law_purse" "_law_purse" (defArgs s__law_purse) (defBody s__law_purse) (defScope s__law_purse) .none kV__law_purse dc__law_purse pm__law_purse an__law_purse cd__law_purse ct__law_purse), f__law_most := f__law_most, d__law_most := (PySem.W.fnOf "_law_most" "_law_most" (defArgs s__law_most) (defBody s__law_most) (defScope s__law_most) .none kV__law_most dc__law_most pm__law_most an__law_most cd__law_most ct__law_most), f__law_with := f__law_with, d__law_with := (PySem.W.fnOf "_law_with" "_law_with" (defArgs s__law_with) (defBody s__law_with) (defScope s__law_with) .none kV__law_with dc__law_with pm__law_with an__law_with cd__law_with ct__law_with), f__law_one_otherwise := f__law_one_otherwise, d__law_one_otherwise := (PySem.W.fnOf "_law_one_otherwise" "_law_one_otherwise" (defArgs s__law_one_otherwise) (defBody s__law_one_otherwise) (defScope s__law_one_otherwise) .none kV__law_one_otherwise dc__law_one_otherwise pm__law_one_otherwise an__law_one_otherwise cd__law_one_otherwise ct__law_one_otherwise), f_is_whole_lasts := f_is_whole_lasts, d_is_whole_lasts := (PySem.W.fnOf "is_whole" "is_whole" (defArgs s_is_whole_lasts) (defBody s_is_whole_lasts) (defScope s_is_whole_lasts) .none kV_is_whole_lasts dc_is_whole_lasts pm_is_whole_lasts an_is_whole_lasts cd_is_whole_lasts ct_is_whole_lasts), f_are_lasts := f_are_lasts, d_are_lasts := (PySem.W.fnOf "are_lasts" "are_lasts" (defArgs s_are_lasts) (defBody s_are_lasts) (defScope s_are_lasts) .none kV_are_lasts dc_are_lasts pm_are_lasts an_are_lasts cd_are_lasts ct_are_lasts), f_is_whole_tables := f_is_whole_tables, d_is_whole_tables := (PySem.W.fnOf "is_whole" "is_whole" (defArgs s_is_whole_tables) (defBody s_is_whole_tables) (defScope s_is_whole_tables) .none kV_is_whole_tables dc_is_whole_tables pm_is_whole_tables an_is_whole_tables cd_is_whole_tables ct_is_whole_tables), f_is_shaped := f_is_shaped, d_is_shaped := (PySem.W.fnOf "is_shaped" "is_shaped" (defArgs s_is_shaped) (defBody s_is_shaped) (defScope s_is_shaped) .none kV_is_shaped dc_is_shaped pm_is_shaped an_is_shaped cd_is_shaped ct_is_shaped), f_lasts_by := f_lasts_by, d_lasts_by := (PySem.W.fnOf "lasts_by" "lasts_by" (defArgs s_lasts_by) (defBody s_lasts_by) (defScope s_lasts_by) .none kV_lasts_by dc_lasts_by pm_lasts_by an_lasts_by cd_lasts_by ct_lasts_by), f_row_of := f_row_of, d_row_of := (PySem.W.fnOf "row_of" "row_of" (defArgs s_row_of) (defBody s_row_of) (defScope s_row_of) .none kV_row_of dc_row_of pm_row_of an_row_of cd_row_of ct_row_of), f_line_of := f_line_of, d_line_of := (PySem.W.fnOf "line_of" "line_of" (defArgs s_line_of) (defBody s_line_of) (defScope s_line_of) .none kV_line_of dc_line_of pm_line_of an_line_of cd_line_of ct_line_of), f_table_of := f_table_of, d_table_of := (PySem.W.fnOf "table_of" "table_of" (defArgs s_table_of) (defBody s_table_of) (defScope s_table_of) .none kV_table_of dc_table_of pm_table_of an_table_of cd_table_of ct_table_of), f_row_of_table := f_row_of_table, d_row_of_table := (PySem.W.fnOf "row_of_table" "row_of_table" (defArgs s_row_of_table) (defBody s_row_of_table) (defScope s_row_of_table) .none kV_row_of_table dc_row_of_table pm_row_of_table an_row_of_table cd_row_of_table ct_row_of_table), f__law_asked := f__law_asked, d__law_asked := (PySem.W.fnOf "_law_asked" "_law_asked" (defArgs s__law_asked) (defBody s__law_asked) (defScope s__law_asked) .none kV__law_asked dc__law_asked pm__law_asked an__law_asked cd__law_asked ct__law_asked), f__law_is_list := f__law_is_list, d__law_is_list := (PySem.W.fnOf "_law_is_list" "_law_is_list" (defArgs s__law_is_list) (defBody s__law_is_list) (defScope s__law_is_list) .none kV__law_is_list dc__law_is_list pm__law_is_list an__law_is_list cd__law_is_list ct__law_is_list), f__law_plain := f__law_plain, d__law_plain := (PySem.W.fnOf "_law_plain" "_law_plain" (defArgs s__law_plain) (defBody s__law_plain) (defScope s__law_plain) .none kV__law_plain dc__law_plain pm__law_plain an__law_plain cd__law_plain ct__law_plain), f__law_row_of := f__law_row_of, d__law_row_of := (PySem.W.fnOf "_law_row_of" "_law_row_of" (defArgs s__law_row_of) (defBody s__law_row_of) (defScope s__law_row_of) .none kV__law_row_of dc__law_row_of pm__law_row_of an__law_row_of cd__law_row_of ct__law_row_of), f__law_right := f__law_right, d__law_right := (PySem.W.fnOf "_law_right" "_law_right" (defArgs s__law_right) (defBody s__law_right) (defScope s__law_right) .none kV__law_right dc__law_right pm__law_right an__law_right cd__law_right ct__law_right), f__law_value := f__law_value, d__law_value := (PySem.W.fnOf "_law_value" "_law_value" (defArgs s__law_value) (defBody s__law_value) (defScope s__law_value) .none kV__law_value dc__law_value pm__law_value an__law_value cd__law_value ct__law_value), f__law_row := f__law_row, d__law_row := (PySem.W.fnOf "_law_row" "_law_row" (defArgs s__law_row) (defBody s__law_row) (defScope s__law_row) .none kV__law_row dc__law_row pm__law_row an__law_row cd__law_row ct__law_row), f_law := f_law, d_law := (PySem.W.fnOf "law" "law" (defArgs s_law) (defBody s_law) (defScope s_law) .none kV_law dc_law pm_law an_law cd_law ct_law), c_NoTable := c_NoTable, c_RowError := c_RowError, c_NoCommand := c_NoCommand, c_NoNeeds := c_NoNeeds, c_NoPlace := c_NoPlace, c_NoRow := c_NoRow, c_NoWindow := c_NoWindow } := {
    F__law_lines := F__law_lines,
    b__law_lines := b__law_lines,
    g__law_lines := PySem.W.mg_of X G a__law_lines,
    F__law_next := F__law_next,
    b__law_next := b__law_next,
    g__law_next := PySem.W.mg_of X G a__law_next,
    F__law_lines_otherwise := F__law_lines_otherwise,
    b__law_lines_otherwise := b__law_lines_otherwise,
    g__law_lines_otherwise := PySem.W.mg_of X G a__law_lines_otherwise,
    F__law_mixed := F__law_mixed,
    b__law_mixed := b__law_mixed,
    g__law_mixed := PySem.W.mg_of X G a__law_mixed,
    F__law_purse := F__law_purse,
    b__law_purse := b__law_purse,
    g__law_purse := PySem.W.mg_of X G a__law_purse,
    F__law_most := F__law_most,
    b__law_most := b__law_most,
    g__law_most := PySem.W.mg_of X G a__law_most,
    F__law_with := F__law_with,
    b__law_with := b__law_with,
    g__law_with := PySem.W.mg_of X G a__law_with,
    F__law_one_otherwise := F__law_one_otherwise,
    b__law_one_otherwise := b__law_one_otherwise,
    g__law_one_otherwise := PySem.W.mg_of X G a__law_one_otherwise,
    F_is_whole_lasts := F_is_whole_lasts,
    b_is_whole_lasts := b_is_whole_lasts,
    g_is_whole_lasts := PySem.W.mg_of X G a_is_whole_lasts,
    F_are_lasts := F_are_lasts,
    b_are_lasts := b_are_lasts,
    g_are_lasts := PySem.W.mg_of X G a_are_lasts,
    F_is_whole_tables := F_is_whole_tables,
    b_is_whole_tables := b_is_whole_tables,
    g_is_whole_tables := PySem.W.mg_of X G a_is_whole_tables,
    F_is_shaped := F_is_shaped,
    b_is_shaped := b_is_shaped,
    g_is_shaped := PySem.W.mg_of X G a_is_shaped,
    F_lasts_by := F_lasts_by,
    b_lasts_by := b_lasts_by,
    g_lasts_by := PySem.W.mg_of X G a_lasts_by,
    F_row_of := F_row_of,
    b_row_of := b_row_of,
    g_row_of := PySem.W.mg_of X G a_row_of,
    F_line_of := F_line_of,
    b_line_of := b_line_of,
    g_line_of := PySem.W.mg_of X G a_line_of,
    F_table_of := F_table_of,
    b_table_of := b_table_of,
    g_table_of := PySem.W.mg_of X G a_table_of,
    F_row_of_table := F_row_of_table,
    b_row_of_table := b_row_of_table,
    g_row_of_table := PySem.W.mg_of X G a_row_of_table,
    F__law_asked := F__law_asked,
    b__law_asked := b__law_asked,
    g__law_asked := PySem.W.mg_of X G a__law_asked,
    F__law_is_list := F__law_is_list,
    b__law_is_list := b__law_is_list,
    g__law_is_list := PySem.W.mg_of X G a__law_is_list,
    F__law_plain := F__law_plain,
    b__law_plain := b__law_plain,
    g__law_plain := PySem.W.mg_of X G a__law_plain,
    F__law_row_of := F__law_row_of,
    b__law_row_of := b__law_row_of,
    g__law_row_of := PySem.W.mg_of X G a__law_row_of,
    F__law_right := F__law_right,
    b__law_right := b__law_right,
    g__law_right := PySem.W.mg_of X G a__law_right,
    F__law_value := F__law_value,
    b__law_value := b__law_value,
    g__law_value := PySem.W.mg_of X G a__law_value,
    F__law_row := F__law_row,
    b__law_row := b__law_row,
    g__law_row := PySem.W.mg_of X G a__law_row,
    F_law := F_law,
    b_law := b_law,
    g_law := PySem.W.mg_of X G a_law,
    g_NoTable := PySem.W.mg_of X G aC_NoTable,
    g_RowError := PySem.W.mg_of X G aC_RowError,
    g_NoCommand := PySem.W.mg_of X G aC_NoCommand,
    g_NoNeeds := PySem.W.mg_of X G aC_NoNeeds,
    g_NoPlace := PySem.W.mg_of X G aC_NoPlace,
    g_NoRow := PySem.W.mg_of X G aC_NoRow,
    g_NoWindow := PySem.W.mg_of X G aC_NoWindow,
    x_NoTable := x_NoTable,
    k_NoTable := k_NoTable,
    b_NoTable := b_NoTable,
    t_NoTable := t_NoTable,
    h_NoTable := h_NoTable,
    b_RowError := b_RowError,
    t_RowError := t_RowError,
    h_RowError := h_RowError,
    s_NoTable_RowError := s_NoTable_RowError,
    q_NoTable_NoTable := q_NoTable_NoTable,
    q_NoTable_ValueError := q_NoTable_ValueError,
    q_NoTable_NoCommand := q_NoTable_NoCommand,
    q_NoTable_NoNeeds := q_NoTable_NoNeeds,
    q_NoTable_NoPlace := q_NoTable_NoPlace,
    q_NoTable_NoRow := q_NoTable_NoRow,
    q_NoTable_NoWindow := q_NoTable_NoWindow,
    Ehg_NoTable := Ehg_NoTable,
    Ehk_NoTable := Ehk_NoTable,
    Eha_NoTable := Eha_NoTable,
    Ehm_NoTable := Ehm_NoTable,
    Ehn := Ehn,
    Eht := Eht,
    m_ValueError := PySem.W.mg_none_of X G z_ValueError,
    m_abs := PySem.W.mg_none_of X G z_abs,
    m_all := PySem.W.mg_none_of X G z_all,
    m_bool := PySem.W.mg_none_of X G z_bool,
    m_enumerate := PySem.W.mg_none_of X G z_enumerate,
    m_int := PySem.W.mg_none_of X G z_int,
    m_isinstance := PySem.W.mg_none_of X G z_isinstance,
    m_len := PySem.W.mg_none_of X G z_len,
    m_list := PySem.W.mg_none_of X G z_list,
    m_range := PySem.W.mg_none_of X G z_range,
    m_repr := PySem.W.mg_none_of X G z_repr,
    m_reversed := PySem.W.mg_none_of X G z_reversed,
    m_set := PySem.W.mg_none_of X G z_set,
    m_str := PySem.W.mg_none_of X G z_str,
    m_tuple := PySem.W.mg_none_of X G z_tuple }
  exact ⟨(PySem.W.fnOf "law" "law" (defArgs s_law) (defBody s_law) (defScope s_law) .none kV_law dc_law pm_law an_law cd_law ct_law), fun s v => .of_eq rfl, fun base _ _ => ok_law T⟩
theorem walk {l : PySem.W.OpenLaw} {q : Program} {loose : List Str} {XP : (Str → Option Value) → Heap → Prop} {YP : World → Heap → Prop} {d : DefRec} {K : Params → PySem.W.Frag} (hn : l.most = some 63) (hdf : d.params.defaults = [])
    (hY : ∀ (w : World) (h : Heap), YP w h → (K w.params).In h)
    (F : ∀ (w : World) (mg : Str → Option Value) (fa : Addr) (h : Heap), (K w.params).In h → h.Ns mainGlobals mg → mg d.name = some (.ref fa) →
      ∃ fd : FuncData, (∀ (s : Shared) (u : Value), BindsTo s fd ⟨[u], []⟩ [("script", u)]) ∧ ∀ base : Heap, (K w.params).In base → base.Ns mainGlobals mg → FnG l.prog w (K w.params) mg base 7 fa fd ["script"] (sp_law (K w.params))) :
    PySem.W.WalkO q loose XP YP l.row.toRowW d [] (fun f vs => PySem.call f vs) :=
  walkG (n := 63) (k := 7) (x := "script") (sp := fun w => sp_law (K w.params)) hn (by decide) hdf ⟨rfl, by decide, by decide⟩ hY F (fun _ _ a ns hl _ hS => ⟨a, ns, rfl, hS, hl, fun _ => rfl⟩)
end Ur
open PySem PySem.W PyProof.Rows in
set_option maxRecDepth 100000 in
set_option maxHeartbeats 0 in
theorem PySem.Challenge.cw_unlikerow_k33_tables_spoilt_holds : PySem.Challenge.rw_unlikerow_k33_tables_spoilt.Holds := by
  w_on; o_law; k_head; (case hw => w_witness2)
  k_fill
  refine Ur.walk (l := PySem.Challenge.rw_unlikerow_k33_tables_spoilt) rfl rfl (fun w h Y => PySem.W.kIn_of Y) ?F
  case F =>
    intro w mg fa h KX G hmg
    refine' Ur.all_mk KX G hmg ?aC_NoTable ?aC_RowError ?aC_NoCommand ?aC_NoNeeds ?aC_NoPlace ?aC_NoRow ?aC_NoWindow ?a__law_lines ?l__law_lines ?q__law_lines ?k__law_lines ?a__law_next ?l__law_next ?q__law_next ?k__law_next ?a__law_lines_otherwise ?l__law_lines_otherwise ?q__law_lines_otherwise ?k__law_lines_otherwise ?a__law_mixed ?l__law_mixed ?q__law_mixed ?k__law_mixed ?a__law_purse ?l__law_purse ?q__law_purse ?k__law_purse ?a__law_most ?l__law_most ?q__law_most ?k__law_most ?a__law_with ?l__law_with ?q__law_with ?k__law_with ?a__law_one_otherwise ?l__law_one_otherwise ?q__law_one_otherwise ?k__law_one_otherwise ?a_is_whole_lasts ?l_is_whole_lasts ?q_is_whole_lasts ?k_is_whole_lasts ?a_are_lasts ?l_are_lasts ?q_are_lasts ?k_are_lasts ?a_is_whole_tables ?l_is_whole_tables ?q_is_whole_tables ?k_is_whole_tables ?a_is_shaped ?l_is_shaped ?q_is_shaped ?k_is_shaped ?a_lasts_by ?l_lasts_by ?q_lasts_by ?k_lasts_by ?a_row_of ?l_row_of ?q_row_of ?k_row_of ?a_line_of ?l_line_of ?q_line_of ?k_line_of ?a_table_of ?l_table_of ?q_table_of ?k_table_of ?a_row_of_table ?l_row_of_table ?q_row_of_table ?k_row_of_table ?a__law_asked ?l__law_asked ?q__law_asked ?k__law_asked ?a__law_is_list ?l__law_is_list ?q__law_is_list ?k__law_is_list ?a__law_plain ?l__law_plain ?q__law_plain ?k__law_plain ?a__law_row_of ?l__law_row_of ?q__law_row_of ?k__law_row_of ?a__law_right ?l__law_right ?q__law_right ?k__law_right ?a__law_value ?l__law_value ?q__law_value ?k__law_value ?a__law_row ?l__law_row ?q__law_row ?k__law_row ?a_law ?l_law ?q_law ?k_law ?x_NoTable ?k_NoTable ?b_NoTable ?t_NoTable ?h_NoTable ?b_RowError ?t_RowError ?h_RowError ?s_NoTable_RowError ?q_NoTable_NoTable ?q_NoTable_ValueError ?q_NoTable_NoCommand ?q_NoTable_NoNeeds ?q_NoTable_NoPlace ?q_NoTable_NoRow ?q_NoTable_NoWindow ?Ehg_NoTable ?Ehk_NoTable ?Eha_NoTable ?Ehm_NoTable ?Ehn ?Eht ?z_ValueError ?z_abs ?z_all ?z_bool ?z_enumerate ?z_int ?z_isinstance ?z_len ?z_list ?z_range ?z_repr ?z_reversed ?z_set ?z_str ?z_tuple
    (case aC_NoTable => k_is)
    (case aC_RowError => k_is)
    (case aC_NoCommand => k_is)
    (case aC_NoNeeds => k_is)
    (case aC_NoPlace => k_is)
    (case aC_NoRow => k_is)
    (case aC_NoWindow => k_is)
    (case a__law_lines => k_is)
    (case l__law_lines => k_is)
    (case q__law_lines => k_is)
    (case k__law_lines => k_is)
    (case a__law_next => k_is)
    (case l__law_next => k_is)
    (case q__law_next => k_is)
    (case k__law_next => k_is)
    (case a__law_lines_otherwise => k_is)
    (case l__law_lines_otherwise => k_is)
    (case q__law_lines_otherwise => k_is)
    (case k__law_lines_otherwise => k_is)
    (case a__law_mixed => k_is)
    (case l__law_mixed => k_is)
    (case q__law_mixed => k_is)
    (case k__law_mixed => k_is)
    (case a__law_purse => k_is)
    (case l__law_purse => k_is)
    (case q__law_purse => k_is)
    (case k__law_purse => k_is)
    (case a__law_most => k_is)
    (case l__law_most => k_is)
    (case q__law_most => k_is)
    (case k__law_most => k_is)
    (case a__law_with => k_is)
    (case l__law_with => k_is)
    (case q__law_with => k_is)
    (case k__law_with => k_is)
    (case a__law_one_otherwise => k_is)
    (case l__law_one_otherwise => k_is)
    (case q__law_one_otherwise => k_is)
    (case k__law_one_otherwise => k_is)
    (case a_is_whole_lasts => k_is)
    (case l_is_whole_lasts => k_is)
    (case q_is_whole_lasts => k_is)
    (case k_is_whole_lasts => k_is)
    (case a_are_lasts => k_is)
    (case l_are_lasts => k_is)
    (case q_are_lasts => k_is)
    (case k_are_lasts => k_is)
    (case a_is_whole_tables => k_is)
    (case l_is_whole_tables => k_is)
    (case q_is_whole_tables => k_is)
    (case k_is_whole_tables => k_is)
    (case a_is_shaped => k_is)
    (case l_is_shaped => k_is)
    (case q_is_shaped => k_is)
    (case k_is_shaped => k_is)
    (case a_lasts_by => k_is)
    (case l_lasts_by => k_is)
    (case q_lasts_by => k_is)
    (case k_lasts_by => k_is)
    (case a_row_of => k_is)
    (case l_row_of => k_is)
    (case q_row_of => k_is)
    (case k_row_of => k_is)
    (case a_line_of => k_is)
    (case l_line_of => k_is)
    (case q_line_of => k_is)
    (case k_line_of => k_is)
    (case a_table_of => k_is)
    (case l_table_of => k_is)
    (case q_table_of => k_is)
    (case k_table_of => k_is)
    (case a_row_of_table => k_is)
    (case l_row_of_table => k_is)
    (case q_row_of_table => k_is)
    (case k_row_of_table => k_is)
    (case a__law_asked => k_is)
    (case l__law_asked => k_is)
    (case q__law_asked => k_is)
    (case k__law_asked => k_is)
    (case a__law_is_list => k_is)
    (case l__law_is_list => k_is)
    (case q__law_is_list => k_is)
    (case k__law_is_list => k_is)
    (case a__law_plain => k_is)
    (case l__law_plain => k_is)
    (case q__law_plain => k_is)
    (case k__law_plain => k_is)
    (case a__law_row_of => k_is)
    (case l__law_row_of => k_is)
    (case q__law_row_of => k_is)
    (case k__law_row_of => k_is)
    (case a__law_right => k_is)
    (case l__law_right => k_is)
    (case q__law_right => k_is)
    (case k__law_right => k_is)
    (case a__law_value => k_is)
    (case l__law_value => k_is)
    (case q__law_value => k_is)
    (case k__law_value => k_is)
    (case a__law_row => k_is)
    (case l__law_row => k_is)
    (case q__law_row => k_is)
    (case k__law_row => k_is)
    (case a_law => k_is)
    (case l_law => k_is)
    (case q_law => k_is)
    (case k_law => k_is)
    (case x_NoTable => k_exc)
    (case k_NoTable => k_is)
    (case b_NoTable => k_is)
    (case t_NoTable => k_is)
    (case h_NoTable => k_is)
    (case b_RowError => k_is)
    (case t_RowError => k_is)
    (case h_RowError => k_is)
    (case s_NoTable_RowError => k_is)
    (case q_NoTable_NoTable => kit_is)
    (case q_NoTable_ValueError => kit_is)
    (case q_NoTable_NoCommand => kit_is)
    (case q_NoTable_NoNeeds => kit_is)
    (case q_NoTable_NoPlace => kit_is)
    (case q_NoTable_NoRow => kit_is)
    (case q_NoTable_NoWindow => kit_is)
    (case Ehg_NoTable => k_is)
    (case Ehk_NoTable => k_is)
    (case Eha_NoTable => k_is)
    (case Ehm_NoTable => k_is)
    (case Ehn => k_is)
    (case Eht => k_is)
    (case z_ValueError => k_is)
    (case z_abs => k_is)
    (case z_all => k_is)
    (case z_bool => k_is)
    (case z_enumerate => k_is)
    (case z_int => k_is)
    (case z_isinstance => k_is)
    (case z_len => k_is)
    (case z_list => k_is)
    (case z_range => k_is)
    (case z_repr => k_is)
    (case z_reversed => k_is)
    (case z_set => k_is)
    (case z_str => k_is)
    (case z_tuple => k_is)
