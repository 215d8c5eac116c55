import PyProof.Rows.All
import Wide.All
import OpenK.AllK
import Wide.FinOn
import KE.KDictZip
import KE.KItemsList
import KE.GoesMore
import KE.GoesEnum
import HandS.ForMost
import HandS.MapObj
import HandS.ListItems
import PyProof.InstEq
import KE.KSortKeyAny
import HandS.More
import HandS.DictComp
import HandS.Lambda
import HandS.SortKw
import HandS.HeadHook4
import KE.KStateDown
import Lean
import HandS.Defaults
import HandS.Exc
import HandS.EndTab
import HandS.HeadWalk
import HandS.Head0
import HandS.Head1
import HandS.Head2
import HandS.HeadEnd
import HandS.HeadHook1
import HandS.HeadHook2
import HandS.HeadHook3
import PySem.Challenge.RW_signferry_k58_whole_charmaps_both_ways
import HandS.IsInst
import HandS.NoneIn
import HandS.TupAny
import HandS.Style
import HandS.Conv
import HandS.Flow
import HandS.Walk
import HandS.DictSub
set_option Elab.async false
set_option linter.all false
set_option maxRecDepth 100000
set_option maxHeartbeats 4000000
/-! list(enumerate(x)), x a list or a tuple -/
namespace En58
open PySem PySem.Calls PyProof.Rows PyProof.V PySem.Spec PySem.W

theorem nolen_en : typeLookup (.type "enumerate") "__len__" = pure none := by rw [typeLookup_type, builtinLookup_eq_fast]; kernel_rfl
theorem nohint_en : typeLookup (.type "enumerate") "__length_hint__" = pure none := by rw [typeLookup_type, builtinLookup_eq_fast]; kernel_rfl

section
variable {prog : Program} {w : World} {A : Around} {E : Value → Shared → Prop} {s : Shared}
theorem item_held {e it T : Addr} {fp : List Addr} {n i : Nat} {P : Nat → Value → Prop} {St : Nat → Heap → Prop} {old : Value} {f : Bool} {oT : Obj} {Q : Value → Shared → Prop}
    (D : Draws prog w A it fp n P St) (he : IsEnumHeld s.heap e it i old T f) (hT : s.heap.get? T = some oT) (hTe : T ≠ e) (hTi : T ≠ it) (hst : St i s.heap) (hlt : i < n) (hne : e ≠ it) (hef : e ∉ fp)
    (hQ : ∀ x h' tk, P i x → IsEnumHeld h' e it ((i : Int) + 1) old T true → St (i + 1) h' →
      h'.get? s.heap.objs.size = some { cls := .type "tuple", data := .seq #[.int i tk, x] } → h'.objs.size = s.heap.objs.size + 1 →
      (∀ b o, b ≠ e → b ≠ it → s.heap.get? b = some o → h'.get? b = some o) → Q (.ref s.heap.objs.size) { s with heap := h', toks := tk + 1 }) :
    wpAny (model prog w) A (Builtin.«enumerate.__next__» ⟨[.ref e], []⟩) (fun fin s' => ∃ v, fin = .done (.ret v) ∧ Q v s') E s := by
  obtain ⟨hp, g, d, tk₀, os⟩ := s
  show wpAny _ _ (field (.ref e) 2 >>= _) _ _ _
  refine wpAny_bind (wpAny_field he rfl (x := .ref it) rfl ?_)
  refine wpAny_bind (D.item i _ _ _ hlt hst fun x h₁ tk hPx hit₁ hs₁ => ?_)
  replace hs₁ : Heap.SameBut it hp h₁ := hs₁
  have he₁ : IsEnumHeld h₁ e it i old T f := (hs₁.2 e hne).trans he
  show wpAny _ _ (field (.ref e) 3 >>= _) _ _ ⟨h₁, g, d, tk, os⟩
  refine wpAny_bind (wpAny_field he₁ rfl (x := rawInt i) rfl ?_)
  show wpAny _ _ (field (.ref e) 4 >>= _) _ _ ⟨h₁, g, d, tk, os⟩
  refine wpAny_bind (wpAny_field he₁ rfl (x := .none) rfl ?_)
  show wpAny _ _ (mkInt i >>= _) _ _ ⟨h₁, g, d, tk, os⟩
  refine wpAny_bind (wpAny_mkInt ?_)
  show wpAny _ _ (setField (.ref e) 3 (rawInt ((i : Int) + 1)) >>= _) _ _ ⟨h₁, g, d, tk + 1, os⟩
  refine wpAny_bind (wpAny_setField_rec he₁ (by simp) fun h₂ he₂ hs₂ => ?_)
  replace hs₂ : Heap.SameBut e h₁ h₂ := hs₂
  replace he₂ : IsEnumHeld h₂ e it ((i : Int) + 1) old T f := he₂
  show wpAny _ _ (setField (.ref e) 4 .none >>= _) _ _ ⟨h₂, g, d, tk + 1, os⟩
  refine wpAny_bind (wpAny_setField_rec he₂ (by simp) fun h₃ he₃ hs₃ => ?_)
  replace hs₃ : Heap.SameBut e h₂ h₃ := hs₃
  replace he₃ : IsEnumHeld h₃ e it ((i : Int) + 1) old T f := he₃
  show wpAny _ _ (newTuple [.int i tk, x] >>= _) _ _ ⟨h₃, g, d, tk + 1, os⟩
  refine wpAny_bind (wpAny_newTuple ?_)
  have he₄ : IsEnumHeld (h₃.push { cls := .type "tuple", data := .seq #[.int i tk, x] }) e it ((i : Int) + 1) old T f := Heap.get?_push_of_some _ he₃
  generalize hh₄ : h₃.push { cls := .type "tuple", data := .seq #[.int i tk, x] } = h₄ at he₄
  have hsz : h₃.objs.size = hp.objs.size := by rw [hs₃.1, hs₂.1, hs₁.1]
  have hel : e < hp.objs.size := Heap.lt_size he
  have ht₄ : h₄.get? hp.objs.size = some { cls := .type "tuple", data := .seq #[.int i tk, x] } := by rw [← hh₄, ← hsz]; exact Heap.get?_push_size _ rfl
  have hz₄ : h₄.objs.size = hp.objs.size + 1 := by rw [← hh₄, Heap.size_push, hsz]
  have hk₄ : ∀ b o, b ≠ e → b ≠ it → hp.get? b = some o → h₄.get? b = some o := fun b o hbe hbi hb => by
    rw [← hh₄]; exact Heap.get?_push_of_some _ (hs₃.extBut b o hbe (hs₂.extBut b o hbe (hs₁.extBut b o hbi hb)))
  have hit₄ : St (i + 1) h₄ := D.frame _ _ _ hit₁ fun b hb o y => by
    have hbe : b ≠ e := fun q => hef (q ▸ hb)
    rw [← hh₄]; exact Heap.get?_push_of_some _ (hs₃.extBut b o hbe (hs₂.extBut b o hbe y))
  show wpAny _ _ (Builtin.SmallTypes.ownedTupleIsFree (.ref e) >>= _) _ _ ⟨h₄, g, d, tk + 1, os⟩
  rw [hsz]
  clear hh₄ he₃ hs₃ he₂ hs₂ he₁ hs₁ hit₁ hsz h₃ h₂ h₁
  refine wpAny_bind (wpAny_tupleHeld_enum (s := ⟨h₄, g, d, tk + 1, os⟩) he₄ (hk₄ T oT hTe hTi hT) fun h₅ he₅ hs₅ => ?_)
  replace hs₅ : Heap.SameBut e h₄ h₅ := hs₅
  simp only [Bool.false_eq_true, if_false]
  refine wpAny_pure ⟨_, rfl, hQ x h₅ tk hPx he₅ (D.frame _ _ _ hit₄ fun b hb o y => hs₅.extBut b o (fun q => hef (q ▸ hb)) y) (hs₅.extBut _ _ (Nat.ne_of_gt hel) ht₄) ?_ fun b o hbe hbi hb => hs₅.extBut b o hbe (hk₄ b o hbe hbi hb)⟩
  show h₅.objs.size = hp.objs.size + 1
  rw [hs₅.1, hz₄]

/-- the walk's state ahead of item i: nothing is out yet, or a tuple that lives is -/
def EnSt (h : Heap) (e it S : Addr) (i : Nat) : Prop :=
  (i = 0 ∧ ∃ old, IsEnum h e it (0 : Nat) old) ∨ ∃ old T f oT, IsEnumHeld h e it i old T f ∧ h.get? T = some oT ∧ T ≠ e ∧ T ≠ it ∧ T ≠ S
theorem EnSt.keep {h h' : Heap} {e it S : Addr} {i : Nat} (x : EnSt h e it S i) (hk : ∀ b o, b ≠ S → h.get? b = some o → h'.get? b = some o) (hS : e ≠ S) : EnSt h' e it S i := by
  rcases x with ⟨e0, old, he⟩ | ⟨old, T, f, oT, he, hT, h1, h2, h3⟩
  · exact .inl ⟨e0, old, hk _ _ hS he⟩
  · exact .inr ⟨old, T, f, oT, hk _ _ hS he, hk _ _ h3 hT, h1, h2, h3⟩
theorem en_item {e it S : Addr} {fp : List Addr} {n i : Nat} {P : Nat → Value → Prop} {St : Nat → Heap → Prop} {Q : Option Value → Shared → Prop}
    (D : Draws prog w A.in1 it fp n P St) (hst : EnSt s.heap e it S i) (hSt : St i s.heap) (hlt : i < n) (hne : e ≠ it) (hef : e ∉ fp) (hS : S < s.heap.objs.size)
    (hQ : ∀ x h' tk, P i x → EnSt h' e it S (i + 1) → St (i + 1) h' →
      h'.get? s.heap.objs.size = some { cls := .type "tuple", data := .seq #[.int i tk, x] } → h'.objs.size = s.heap.objs.size + 1 →
      (∀ b o, b ≠ e → b ≠ it → s.heap.get? b = some o → h'.get? b = some o) → Q (some (.ref s.heap.objs.size)) { s with heap := h', toks := tk + 1 }) :
    wpAny (model prog w) A (pyNext (.ref e)) Q E s := by
  have hil : it < s.heap.objs.size := by obtain ⟨_, y⟩ := D.live _ _ hSt; exact Heap.lt_size y
  rcases hst with ⟨e0, old, he⟩ | ⟨old, T, f, oT, he, hT, h1, h2, h3⟩
  · subst e0
    have hel : e < s.heap.objs.size := Heap.lt_size he
    refine wpAny_pyNext_enum_itemD D he hSt hlt hne hef fun x h' tk a b c d k q => hQ x h' tk a ?_ c d k q
    exact .inr ⟨x, s.heap.objs.size, false, _, b, d, Nat.ne_of_gt hel, Nat.ne_of_gt hil, Nat.ne_of_gt hS⟩
  · have hTy : s.TypeIs (.ref e) "enumerate" := ⟨_, he, rfl⟩
    unfold pyNext
    exact wpAny_bind (wpAny_attempt (wpAny_callSpecial?_slot (name := Str.ofString "__next__") hTy F.slot_enumerate_next
      (wpAny_call_entry F.slot_enumerate_next hTy F.entry_enumerate_next
        (item_held D he hT h1 h2 hSt hlt hne hef fun x h' tk a b c d k q => wpAny_pure (hQ x h' tk a (.inr ⟨old, T, true, oT, b, q T oT h1 h2 hT, h1, h2, h3⟩) c d k q)) (F.args_enumerate_next_1 _))))
theorem en_done {e it S : Addr} {fp : List Addr} {n : Nat} {P : Nat → Value → Prop} {St : Nat → Heap → Prop} {Q : Option Value → Shared → Prop}
    (D : Draws prog w A.in1 it fp n P St) (hst : EnSt s.heap e it S n) (hSt : St n s.heap)
    (hQ : ∀ h', Heap.ExtBut it s.heap h' → Q none { s with heap := h' }) : wpAny (model prog w) A (pyNext (.ref e)) Q E s := by
  have go : ∀ {fs : Array Value}, s.heap.get? e = some { cls := .type "enumerate", dict := none, data := .fields fs, slots := #[] } → fs[2]? = some (.ref it) → wpAny (model prog w) A (pyNext (.ref e)) Q E s := by
    intro fs he hf
    have hTy : s.TypeIs (.ref e) "enumerate" := ⟨_, he, rfl⟩
    unfold pyNext
    refine wpAny_bind (wpAny_attempt (wpAny_callSpecial?_slot (name := Str.ofString "__next__") hTy F.slot_enumerate_next
      (wpAny_call_entry F.slot_enumerate_next hTy F.entry_enumerate_next ?_ (F.args_enumerate_next_1 _))))
    show wpAny _ _ (field (.ref e) 2 >>= _) _ _ _
    refine wpAny_bind (wpAny_field he rfl (x := .ref it) hf ?_)
    refine wpAny_bind (D.done _ _ _ hSt fun h' x he' hx' => ?_)
    obtain ⟨o, ho, hc⟩ := hx'
    refine wpAny_bind (wpAny_isInstance (T := "StopIteration") (b := true) ⟨o, ho, hc⟩ isSubtype_stop ?_)
    exact wpAny_pure (hQ _ he')
  rcases hst with ⟨e0, old, he⟩ | ⟨old, T, f, oT, he, _, _, _, _⟩
  · exact go he rfl
  · exact go he rfl

/-- what the list holds: new tuples (place, item) -/
structure EnG (P : Nat → Value → Prop) (lo : Addr) (h : Heap) (as : List Addr) : Prop where
  rise : as.Pairwise (· < ·)
  above : ∀ a ∈ as, lo < a
  pairs : ∀ (j : Nat) (a : Addr), as[j]? = some a → ∃ (tk : Tok) (x : Value), P j x ∧ h.get? a = some { cls := .type "tuple", data := .seq #[.int (j : Nat) tk, x] }
theorem EnG.there {P : Nat → Value → Prop} {lo : Addr} {h : Heap} {as : List Addr} (g : EnG P lo h as) {a : Addr} (ha : a ∈ as) : a < h.objs.size := by
  obtain ⟨j, hj⟩ := List.mem_iff_getElem?.mp ha
  obtain ⟨_, _, _, e⟩ := g.pairs j a hj
  exact Heap.lt_size e
theorem EnG.low {P : Nat → Value → Prop} {lo lo' : Addr} {h : Heap} {as : List Addr} (g : EnG P lo h as) (hl : lo' ≤ lo) : EnG P lo' h as := ⟨g.rise, fun a ha => Nat.lt_of_le_of_lt hl (g.above a ha), g.pairs⟩
end
section
variable {prog : Program} {w : World} {A : Around} {s : Shared} {R : Result → Shared → Prop} {fp : List Addr} {n : Nat} {P : Nat → Value → Prop} {St : Nat → Heap → Prop}
theorem en_loop {S I e : Addr} (D : Draws prog w A.in1.in1 I fp n P St) (hSI : S ≠ I) (hSe : e < S) (hIe : I < e) (hef : e ∉ fp) (hSf : S ∉ fp) (hn : n ≤ sizeLine) (res : Value) {h₁ : Heap}
    (hR : ∀ h' tk acc c as, (∀ b o, b ≠ S → b ≠ I → b ≠ e → h₁.get? b = some o → h'.get? b = some o) → h'.get? S = some { cls := .type "list", dict := none, data := .seq acc c, slots := #[] } → as.length = n → EnG P S h' as →
      acc.toList = as.map Value.ref → R (.ok (.ret res)) { s with heap := h', toks := tk }) :
    ∀ (k i : Nat) (h : Heap) (tk c : Nat) (acc : Array Value) (as : List Addr), n - i = k → i ≤ n → EnSt h e I S i → St i h → (∀ b o, b ≠ S → b ≠ I → b ≠ e → h₁.get? b = some o → h.get? b = some o) →
      h.get? S = some { cls := .type "list", dict := none, data := .seq acc c, slots := #[] } → acc.toList = as.map Value.ref → as.length = i → EnG P S h as → S < h.objs.size →
      codeAny (model prog w) A (.builtin "list.extend.loop" ⟨[.ref S, .ref e, res], []⟩) R { s with heap := h, toks := tk } := by
  have hSne : S ≠ e := Nat.ne_of_gt hSe
  intro k
  induction k with
  | zero =>
    intro i h tk c acc as hk hi hst hSt hkeep hS hacc hal hG hIs
    have hin : i = n := by omega
    subst hin
    refine codeAny_builtin PySem.F.entry_extend_loop ?_
    rw [Around.under_plainId PySem.F.plain_extend_loop _]
    show wpAny _ A.in1 (pyNext (.ref e) >>= _) _ _ _
    refine wpAny_bind (en_done (s := { s with heap := h, toks := tk }) (A := A.in1) (S := S) D hst hSt fun h' he => ?_)
    refine wpAny_pure (hR h' tk acc c as (fun b o h1 h2 h3 q => he b o h2 (hkeep b o h1 h2 h3 q)) (he S _ hSI hS) hal ⟨hG.rise, hG.above, fun j a hj => ?_⟩ hacc)
    obtain ⟨tk', x, e1, e2⟩ := hG.pairs j a hj
    exact ⟨tk', x, e1, he a _ (Nat.ne_of_gt (Nat.lt_trans hIe (Nat.lt_trans hSe (hG.above a (List.mem_of_getElem? hj))))) e2⟩
  | succ k ih =>
    intro i h tk c acc as hk hi hst hSt hkeep hS hacc hal hG hIs
    have hlt : i < n := by omega
    have hsz : acc.size = i := by rw [← Array.length_toList, hacc, List.length_map, hal]
    refine codeAny_builtin PySem.F.entry_extend_loop ?_
    rw [Around.under_plainId PySem.F.plain_extend_loop _]
    show wpAny _ A.in1 (pyNext (.ref e) >>= _) _ _ _
    refine wpAny_bind (en_item (s := { s with heap := h, toks := tk }) (A := A.in1) (S := S) D hst hSt hlt (Nat.ne_of_gt hIe) hef (Heap.lt_size hS) fun x h' tk' hP hst' hSt' ht hz hkp => ?_)
    dsimp only at ht hz hkp ⊢
    have hS' := hkp S _ hSne hSI hS
    have up : ∀ b o, b ≠ S → h'.get? b = some o → (h'.update S (Obj.mapSeq (·.push (Value.ref h.objs.size)))).get? b = some o := fun b o hb q => (Heap.get?_update_other _ _ (Ne.symm hb)).trans q
    have hSl : S < h.objs.size := Heap.lt_size hS
    show wpAny _ A.in1 (updateSeq S (·.push (Value.ref h.objs.size)) >>= _) _ _ _
    refine wpAny_bind ?_
    refine wpAny_updateSeq hS' rfl (wpAny_pure ⟨plainId_quiet PySem.F.plain_extend_loop _, ih (i + 1) _ (tk' + 1) _ (acc.push (Value.ref h.objs.size)) (as ++ [h.objs.size]) (by omega) hlt (hst'.keep up (Ne.symm hSne)) (D.frame _ _ _ hSt' fun b hb o q => up b o (fun z => hSf (z ▸ hb)) q)
      (fun b o h1 h2 h3 q => up b o h1 (hkp b o h3 h2 (hkeep b o h1 h2 h3 q))) (Heap.get?_update_self _ hS' rfl) (by rw [Array.toList_push, hacc, List.map_append]; rfl) (by rw [List.length_append, hal]; rfl) ⟨?_, ?_, ?_⟩ ?_⟩) (by rw [hsz]; omega) (by show (acc.push (Value.ref h.objs.size)).size ≤ sizeLine + 1; rw [Array.size_push, hsz]; omega)
    · refine List.pairwise_append.mpr ⟨hG.rise, List.pairwise_singleton _ _, fun a ha b hb => ?_⟩
      rw [List.mem_singleton.mp hb]
      exact hG.there ha
    · intro a ha
      rcases List.mem_append.mp ha with ha | ha
      · exact hG.above a ha
      · rw [List.mem_singleton.mp ha]; exact hIs
    · intro j b hj
      rcases Nat.lt_trichotomy j as.length with h1 | h1 | h1
      · rw [List.getElem?_append_left h1] at hj
        obtain ⟨tk2, x', e1, e2⟩ := hG.pairs j b hj
        have hb := hG.above b (List.mem_of_getElem? hj)
        exact ⟨tk2, x', e1, up b _ (Nat.ne_of_gt hb) (hkp b _ (Nat.ne_of_gt (Nat.lt_trans hSe hb)) (Nat.ne_of_gt (Nat.lt_trans hIe (Nat.lt_trans hSe hb))) e2)⟩
      · subst h1
        have hb : h.objs.size = b := by simpa using hj
        subst hb
        exact ⟨tk', x, by rw [hal]; exact hP, by rw [hal]; exact up _ _ (Nat.ne_of_gt hSl) ht⟩
      · have hnone : (as ++ [h.objs.size])[j]? = none := List.getElem?_eq_none (by rw [List.length_append, List.length_singleton]; omega)
        rw [hnone] at hj; cases hj
    · have q : (h'.update S (Obj.mapSeq (·.push (Value.ref h.objs.size)))).get? h.objs.size = _ := up _ _ (Nat.ne_of_gt hSl) ht
      exact Nat.lt_trans hIs (Heap.lt_size q)
end
end En58


set_option Elab.async false
set_option linter.all false
set_option maxRecDepth 100000
set_option maxHeartbeats 4000000
namespace En58
open PySem PySem.Calls PyProof.Rows PyProof.V PySem.Spec PySem.W
section
variable {prog : Program} {w : World} {A : Around} {E : Value → Shared → Prop} {s : Shared}
theorem en_hint {r : Addr} {Q : Bool → Shared → Prop} (hT : s.TypeIs (.ref r) "enumerate") (h : Q true s) : wpAny (model prog w) A (Builtin.List.listLengthHint (.ref r)) Q E s := by
  unfold Builtin.List.listLengthHint
  refine wpAny_bind (wpAny_specialOf hT nolen_en ?_)
  refine PySem.W.KFB.if_not rfl ?_
  refine PySem.W.KFB.if_not rfl ?_
  refine wpAny_bind (wpAny_specialOf hT nohint_en ?_)
  exact wpAny_pure h
end
section
variable {prog : Program} {w : World} {A : Around} {E : Value → Shared → Prop} {s : Shared} {fp : List Addr} {n : Nat} {P : Nat → Value → Prop} {St : Nat → Heap → Prop} {I e : Addr}
theorem en_extend {R : Result → Shared → Prop} (D : Draws prog w A.in1.in1 I fp n P St) (he : IsEnum s.heap e I (0 : Nat) .none) (hst : St 0 s.heap) (S : Addr) (hSI : S ≠ I) (hSe : e < S) (hIe : I < e) (hef : e ∉ fp) (hSf : S ∉ fp) (res : Value) (c₀ : Nat) (hS : s.heap.get? S = some { cls := .type "list", data := .seq #[] c₀ })
    (hloop : ∀ (h : Heap) (c₁ tk : Nat), EnSt h e I S 0 → St 0 h → (∀ b o, b ≠ S → s.heap.get? b = some o → h.get? b = some o) → h.get? S = some { cls := .type "list", data := .seq #[] c₁ } → e < h.objs.size → S < h.objs.size →
      codeAny (model prog w) A (.builtin "list.extend.loop" ⟨[.ref S, .ref e, res], []⟩) R { s with heap := h, toks := tk }) :
    wpAny (model prog w) A.in1 (Builtin.List.listExtendWith (.ref S) (.ref e) res)
      (fun fin s' => match fin with | .done f => R (.ok f) s' | .again c' => c'.quiet = true ∧ codeAny (model prog w) A c' R s') (fun e s' => R (.error e) s') s := by
  have hT : s.TypeIs (.ref e) "enumerate" := ⟨_, he, rfl⟩
  have heS : e ≠ S := Nat.ne_of_lt hSe
  have hSl : S < s.heap.objs.size := Heap.lt_size hS
  have hel : e < s.heap.objs.size := Heap.lt_size he
  unfold Builtin.List.listExtendWith
  refine wpAny_bind (wpAny_typeOf (T := "enumerate") hT ?_)
  have h1 : Builtin.List.listSameRef (.ref S) (.ref e) = false := by simp [Builtin.List.listSameRef, Ne.symm heS]
  have h2 : (Value.type "enumerate" == Value.type "list") = false := by decide
  have h3 : (Value.type "enumerate" == Value.type "tuple") = false := by decide
  simp only [h1, h2, h3, Bool.or_false, Bool.false_eq_true, if_false]
  refine wpAny_bind (wpAny_pyIter_enum he ?_)
  refine wpAny_bind (wpAny_holding (en_hint hT ?_))
  refine wpAny_ite_split (fun _ => ?_) (fun _ => wpAny_pure ⟨plainId_quiet PySem.F.plain_extend_loop _, hloop s.heap c₀ s.toks (.inl ⟨rfl, .none, he⟩) hst (fun _ _ _ q => q) hS hel hSl⟩)
  refine wpAny_bind (wpAny_rule ?_)
  refine wpAny_bind ?_
  show wpAny _ _ (updateSeq S (·.push .none) >>= fun _ => updateSeq S (·.pop)) _ _ _
  refine wpAny_bind (wpAny_updateSeq hS rfl ?_)
  have hS₂ := Heap.get?_update_self (Obj.mapSeq (·.push Value.none)) hS rfl
  refine wpAny_updateSeq (hz := by seq_fits) hS₂ rfl ?_
  have hS₃ := Heap.get?_update_self (Obj.mapSeq (·.pop)) hS₂ rfl
  have oth : ∀ b o, b ≠ S → s.heap.get? b = some o → ((s.heap.update S (Obj.mapSeq (·.push Value.none))).update S (Obj.mapSeq (·.pop))).get? b = some o := fun b o hb q =>
    (Heap.get?_update_other _ _ (Ne.symm hb)).trans ((Heap.get?_update_other _ _ (Ne.symm hb)).trans q)
  refine wpAny_pure ⟨plainId_quiet PySem.F.plain_extend_loop _, hloop _ _ s.toks (.inl ⟨rfl, .none, oth _ _ heS he⟩) (D.frame _ _ _ hst fun b hb o q => oth b o (fun z => hSf (z ▸ hb)) q) oth hS₃ (by rw [Heap.size_update, Heap.size_update]; exact hel) (by rw [Heap.size_update, Heap.size_update]; exact hSl)⟩
theorem en_init {R : Result → Shared → Prop} (hh : A.handled = none) (D : ∀ A' : Around, A'.handled = none → Draws prog w A' I fp n P St) (he : IsEnum s.heap e I (0 : Nat) .none) (hst : St 0 s.heap) (S : Addr) (hSI : S ≠ I) (hSe : e < S) (hIe : I < e) (hef : e ∉ fp) (hSf : S ∉ fp) (hS : s.heap.get? S = some { cls := .type "list", data := .seq #[] })
    (hR : ∀ h' tk acc c as, (∀ b o, b ≠ S → b ≠ I → b ≠ e → s.heap.get? b = some o → h'.get? b = some o) → h'.get? S = some { cls := .type "list", dict := none, data := .seq acc c, slots := #[] } → as.length = n → EnG P S h' as →
      acc.toList = as.map Value.ref → R (.ok (.ret .none)) { s with heap := h', toks := tk }) (hn : n ≤ sizeLine) :
    wpAny (model prog w) A.in1 (Builtin.«list.__init__» ⟨[.ref S, .ref e], []⟩)
      (fun fin s' => match fin with | .done f => R (.ok f) s' | .again c' => c'.quiet = true ∧ codeAny (model prog w) A c' R s') (fun e s' => R (.error e) s') s := by
  show wpAny _ _ (do let old ← Builtin.List.listItems (.ref S); Builtin.List.listUpdate (.ref S) (fun _ => #[]); letGo old.toList.reverse; Builtin.List.listExtendWith (.ref S) (.ref e) .none) _ _ s
  refine wpAny_bind ?_
  unfold Builtin.List.listItems
  refine wpAny_bind (wpAny_seqItems hS rfl (wpAny_pure ?_))
  show wpAny _ _ (updateSeq S (fun _ => #[]) >>= fun _ => letGo (#[] : Array Value).toList.reverse >>= fun _ => Builtin.List.listExtendWith (.ref S) (.ref e) .none) _ _ s
  refine wpAny_bind (wpAny_updateSeq hS rfl ?_)
  have hS₂ := Heap.get?_update_self (Obj.mapSeq (fun _ => (#[] : Array Value))) hS rfl
  have oth : ∀ b o, b ≠ S → s.heap.get? b = some o → (s.heap.update S (Obj.mapSeq (fun _ => (#[] : Array Value)))).get? b = some o :=
    fun b o hb e => (Heap.get?_update_other _ _ (Ne.symm hb)).trans e
  refine wpAny_bind (wpAny_letGo ?_)
  have heS : e ≠ S := Nat.ne_of_lt hSe
  refine en_extend (s := { s with heap := s.heap.update S (Obj.mapSeq (fun _ => (#[] : Array Value))) }) (D A.in1.in1 hh) (oth _ _ heS he) ((D A.in1.in1 hh).frame _ _ _ hst fun b hb o q => oth b o (fun z => hSf (z ▸ hb)) q) S hSI hSe hIe hef hSf .none _ hS₂ fun h c₁ tk k1 k2 k3 k4 k5 k6 => ?_
  exact en_loop (s := s) (h₁ := s.heap) (D A.in1.in1 hh) hSI hSe hIe hef hSf hn .none hR n 0 h tk c₁ #[] [] (Nat.sub_zero _) (Nat.zero_le _) k1 k2 (fun b o h1 _ _ q => k3 b o h1 (oth b o h1 q)) k4 rfl rfl
    ⟨List.Pairwise.nil, (fun _ ha => nomatch ha), (fun j a hj => by simp at hj)⟩ k6
theorem en_call {Q : Value → Shared → Prop} (hh : A.handled = none) (D : ∀ A' : Around, A'.handled = none → Draws prog w A' I fp n P St) (he : IsEnum s.heap e I (0 : Nat) .none) (hst : St 0 s.heap) (hIe : I < e) (hef : e ∉ fp) (hfp : ∀ b ∈ fp, b < s.heap.objs.size) (hn : n ≤ sizeLine)
    (hQ : ∀ h' tk acc c as, (∀ b o, b ≠ I → b ≠ e → s.heap.get? b = some o → h'.get? b = some o) → h'.get? s.heap.objs.size = some { cls := .type "list", dict := none, data := .seq acc c, slots := #[] } → as.length = n → EnG P s.heap.objs.size h' as →
      acc.toList = as.map Value.ref → Q (.ref s.heap.objs.size) { s with heap := h', toks := tk }) :
    wpAny (model prog w) A (call (.type "list") [.ref e]) Q E s := by
  refine callType_codes (Q₁ := fun obj s₁ => obj = .ref s.heap.objs.size ∧ s₁ = { s with heap := s.heap.push { cls := .type "list", data := .seq #[] } }) PySem.F.called_list (PySem.F.typeCall_list_1 _) PySem.F.entry_list_init
    (code_list_new _ ⟨rfl, rfl⟩) fun obj s₁ h₁ => ?_
  obtain ⟨rfl, rfl⟩ := h₁
  have hS : (s.heap.push { cls := .type "list", data := .seq #[] }).get? s.heap.objs.size = some { cls := .type "list", data := .seq #[] } := Heap.get?_push_size _ rfl
  have hel : e < s.heap.objs.size := Heap.lt_size he
  have up : ∀ b o, s.heap.get? b = some o → (s.heap.push { cls := .type "list", data := .seq #[] }).get? b = some o := fun b o q => Heap.get?_push_of_some _ q
  refine ⟨⟨_, hS, rfl⟩, PySem.F.args_list_init_2 _ _, en_init (A := A.in1) (s := { s with heap := s.heap.push { cls := .type "list", data := .seq #[] } }) hh D (up _ _ he) ((D A hh).frame _ _ _ hst fun b _ o q => up b o q) s.heap.objs.size (Nat.ne_of_gt (Nat.lt_trans hIe hel)) hel hIe hef
    (fun z => Nat.lt_irrefl _ (hfp _ z)) hS (fun h' tk acc c as hk hS' hl hG hacc => ?_) hn⟩
  exact ⟨rfl, hQ h' tk acc c as (fun b o h1 h2 q => hk b o (Nat.ne_of_lt (Heap.lt_size q)) h1 h2 (up b o q)) hS' hl hG hacc⟩
end
end En58


set_option Elab.async false
set_option linter.all false
set_option maxRecDepth 100000
set_option maxHeartbeats 4000000
namespace En58
open PySem PySem.Calls PyProof.Rows PyProof.V PySem.Spec PySem.W
theorem new1B {v : Value} {o : Obj} {H : Heap → Prop} (B : Begins v o H) :
    Meets (Builtin.«enumerate.__new__» ⟨[.type "enumerate", v], []⟩) (fun _ R s => H s.heap ∧
      R (.ok (.ret (.ref (s.heap.push o).objs.size))) { s with heap := (s.heap.push o).push { cls := .type "enumerate", data := .fields #[.none, .bool false, .ref s.heap.objs.size, rawInt 0, .none, .none] } }) :=
  .of_wp fun prog w A R s h => by
    obtain ⟨hp, g, d, tk, os⟩ := s; obtain ⟨h1, h⟩ := h
    have hsub := sub_enumerate
    have q1 : ∀ {A' : Around} {E : Value → Shared → Prop} {Q : Value → Shared → Prop}, Q (.ref hp.objs.size) ⟨hp.push o, g, d, tk, os⟩ → wpAny (model prog w) A' (pyIter v) Q E ⟨hp, g, d, tk, os⟩ :=
      fun q => B.iter prog w _ _ ⟨hp, g, d, tk, os⟩ _ h1 q
    wp_walk using q1
    refine wpAny_stack_any fun st => wpAny_pure ?_
    split
    · rename_i c _ _ _ _ _
      cases (c == Value.type "enumerate")
      · wp_walk using q1
        exact ⟨_, rfl, h⟩
      · wp_walk using q1
        exact ⟨_, rfl, h⟩
    · wp_walk using q1
      exact ⟨_, rfl, h⟩
section
variable {prog : Program} {w : World} {A : Around} {E : Value → Shared → Prop} {s : Shared}
/-- enumerate(v): its two new cells -/
theorem begins1 {a : Addr} {o : Obj} {H : Heap → Prop} {Q : Value → Shared → Prop} (B : Begins (.ref a) o H) (h1 : H s.heap)
    (h : ∀ h', IsEnum h' (s.heap.objs.size + 1) s.heap.objs.size (0 : Nat) .none → h'.get? s.heap.objs.size = some o → h'.objs.size = s.heap.objs.size + 2 →
      (∀ b o, s.heap.get? b = some o → h'.get? b = some o) → Q (.ref (s.heap.objs.size + 1)) { s with heap := h' }) :
    wpAny (model prog w) A (call (.type "enumerate") [.ref a]) Q E s := by
  refine callType_new F.called_enumerate (by decide) (F.typeCall_enumerate_1 _) (F.newCall_enumerate_1 _) (fun obj => F.args_object_init_2 obj _) F.entry_enumerate_new
    (new1B B) ⟨h1, ?_⟩
  have hz : (s.heap.push o).objs.size = s.heap.objs.size + 1 := Heap.size_push ..
  show _ ∧ _
  rw [hz]
  have he : IsEnum ((s.heap.push o).push { cls := .type "enumerate", data := .fields #[.none, .bool false, .ref s.heap.objs.size, rawInt 0, .none, .none] }) (s.heap.objs.size + 1) s.heap.objs.size (0 : Nat) .none := by
    have := Heap.get?_push_size (s.heap.push o) (o := { cls := .type "enumerate", data := .fields #[.none, .bool false, .ref s.heap.objs.size, rawInt 0, .none, .none] }) rfl
    rw [hz] at this; exact this
  refine ⟨⟨_, he, rfl⟩, h _ he (Heap.get?_push_of_some _ (Heap.get?_push_size _ B.free)) (by rw [Heap.size_push, hz]) fun b o x => Heap.get?_push_of_some _ (Heap.get?_push_of_some _ x)⟩
/-- enumerate(v), then list of it -/
theorem both {a : Addr} {o : Obj} {Hh : Heap → Prop} {items : Array Value} {St : Addr → Nat → Heap → Prop} {Q : Value → Shared → Prop} (hh : A.handled = none) (B : Begins (.ref a) o Hh) (h1 : Hh s.heap) (hz : items.size ≤ sizeLine) (hal : a < s.heap.objs.size)
    (D : ∀ (it : Addr), a ≠ it → ∀ A' : Around, A'.handled = none → Draws prog w A' it [it, a] items.size (fun i v => items[i]? = some v) (St it)) (hSt : ∀ (it : Addr) (h : Heap), h.get? it = some o → (∀ b o, s.heap.get? b = some o → h.get? b = some o) → St it 0 h)
    (hQ : ∀ h' tk acc c as, (∀ b o, s.heap.get? b = some o → h'.get? b = some o) → h'.get? (s.heap.objs.size + 2) = some { cls := .type "list", dict := none, data := .seq acc c, slots := #[] } → as.length = items.size → EnG (fun i v => items[i]? = some v) (s.heap.objs.size + 2) h' as →
      acc.toList = as.map Value.ref → Q (.ref (s.heap.objs.size + 2)) { s with heap := h', toks := tk }) :
    wpAny (model prog w) A (call (.type "enumerate") [.ref a]) (fun v s' => wpAny (model prog w) A (call (.type "list") [v]) Q E s') E s := by
  refine begins1 B h1 fun h1' e1 e2 e3 e4 => ?_
  have ne : a ≠ s.heap.objs.size := Nat.ne_of_lt hal
  refine en_call (s := { s with heap := h1' }) (I := s.heap.objs.size) (e := s.heap.objs.size + 1) (fp := [s.heap.objs.size, a]) (n := items.size) (P := fun i v => items[i]? = some v) hh (D _ ne) e1 (hSt _ _ e2 e4) (Nat.lt_succ_self _) (fun z => ?_) (fun b hb => ?_) hz fun h' tk acc c as k1 k2 k3 k4 k5 => ?_
  · rcases List.mem_cons.mp z with z | z
    · exact Nat.lt_irrefl _ (Nat.lt_of_lt_of_eq (Nat.lt_succ_self _) z)
    · rw [← List.mem_singleton.mp z] at hal
      exact Nat.lt_irrefl _ (Nat.lt_trans (Nat.lt_succ_self _) hal)
  · show b < h1'.objs.size
    rw [e3]
    rcases List.mem_cons.mp hb with z | z
    · rw [z]; exact Nat.lt_trans (Nat.lt_succ_self _) (Nat.lt_succ_self _)
    · rw [List.mem_singleton.mp z]; exact Nat.lt_trans hal (Nat.lt_trans (Nat.lt_succ_self _) (Nat.lt_succ_self _))
  · have k2' : h'.get? h1'.objs.size = _ := k2
    have k4' : EnG (fun i v => items[i]? = some v) h1'.objs.size h' as := k4
    rw [e3] at k2' k4'
    show Q (.ref h1'.objs.size) _
    rw [e3]
    exact hQ h' tk acc c as (fun b o q => k1 b o (Nat.ne_of_lt (Heap.lt_size q)) (Nat.ne_of_lt (Nat.lt_trans (Heap.lt_size q) (Nat.lt_succ_self _))) (e4 b o q)) k2' k3 k4' k5
end
end En58
namespace En58
open PySem PySem.Spec PyProof.Rows L2
/-- the tuples (place, item) tracked at their addresses -/
def putE : Hp → List Addr → List V → Nat → Hp
  | H, a :: as, x :: xs, i => putE (upd H a (.tup [.int (i : Nat), x])) as xs (i + 1)
  | H, _, _, _ => H
theorem putE_off {b : Addr} : ∀ (as : List Addr) (xs : List V) (i : Nat) (H : Hp), b ∉ as → putE H as xs i b = H b
  | [], _, _, _, _ => rfl
  | _ :: _, [], _, _, _ => rfl
  | a :: as, x :: xs, i, H, h => by
    show putE (upd H a (.tup [.int (i : Nat), x])) as xs (i + 1) b = H b
    rw [putE_off as xs (i + 1) _ (fun z => h (List.mem_cons_of_mem _ z)), upd_ne (fun z => h (by rw [z]; exact List.mem_cons_self))]
theorem putE_at : ∀ (as : List Addr) (xs : List V) (i : Nat) (H : Hp), as.length = xs.length → as.Nodup → ∀ (j : Nat) (a : Addr) (x : V), as[j]? = some a → xs[j]? = some x → putE H as xs i a = some (.tup [.int ((i + j : Nat) : Int), x])
  | [], _, _, _, _, _, j, a, x, h, _ => by simp at h
  | b :: as, [], _, _, h, _, _, _, _, _, _ => by cases h
  | b :: as, y :: xs, i, H, h, hn, j, a, x, h1, h2 => by
    have hn' := List.nodup_cons.mp hn
    cases j with
    | zero =>
      simp at h1 h2
      subst h1 h2
      show putE (upd H b (.tup [.int (i : Nat), y])) as xs (i + 1) b = some (.tup [.int ((i + 0 : Nat) : Int), y])
      rw [putE_off as xs (i + 1) _ hn'.1, upd_same]
      rfl
    | succ j =>
      have ih := putE_at as xs (i + 1) (upd H b (.tup [.int (i : Nat), y])) (Nat.succ.inj h) hn'.2 j a x (by simpa using h1) (by simpa using h2)
      show putE (upd H b (.tup [.int (i : Nat), y])) as xs (i + 1) a = some (.tup [.int ((i + (j + 1) : Nat) : Int), x])
      rw [ih]
      have e : i + 1 + j = i + (j + 1) := by omega
      rw [e]
def rEnumL (K : PySem.W.Frag) : V → Hp → VK → Prop := fun x H Q => ∃ (a : Addr) (xs : List V), x = .ref a ∧ (SqL K H a xs ∨ SqT K H a xs) ∧
  ∀ (H' : Hp) (p : Addr) (ts : List Addr), (∀ b o, H b = some o → H' b = some o) → H p = none → (∀ t ∈ ts, H t = none) → p ∉ ts → H' p = some (.lst (ts.map V.ref)) → ts.length = xs.length →
    (∀ (j : Nat) (t : Addr) (y : V), ts[j]? = some t → xs[j]? = some y → H' t = some (.tup [.int (j : Nat), y])) → Q (.ref p) H'
def tListEnum (K : PySem.W.Frag) (t : TA) : TE := fun σ H Q => t σ H fun vs H1 => ∃ x, vs = [x] ∧ rEnumL K x H1 Q
section
variable {X : Cx} {e : Expr} {t : TA} {p p2 cpos pos : Pos}
theorem laid {pins : List (Addr × Obj)} {σ : L2.St} {H : Hp} {s : Shared} {h' : Heap} {tk : Nat} {xs : List V} {its : List Value} {acc : Array Value} {c : Nat} {as : List Addr} {S : Addr} (I : Inv X pins σ H s) (hz : xs.length ≤ sizeLine) (rv : Vals xs its) (hS0 : s.heap.objs.size ≤ S)
    (hk : ∀ b o, s.heap.get? b = some o → h'.get? b = some o) (hS : h'.get? S = some { cls := .type "list", dict := none, data := .seq acc c, slots := #[] }) (hl : as.length = its.length) (hG : EnG (fun i v => its[i]? = some v) S h' as) (hacc : acc.toList = as.map Value.ref) :
    ∃ H' : Hp, (∀ b o, H b = some o → H' b = some o) ∧ H S = none ∧ (∀ t ∈ as, H t = none) ∧ S ∉ as ∧ H' S = some (.lst (as.map V.ref)) ∧ (∀ (j : Nat) (t : Addr) (y : V), as[j]? = some t → xs[j]? = some y → H' t = some (.tup [.int (j : Nat), y])) ∧ Inv X pins σ H' { s with heap := h', toks := tk } := by
  have lk : xs.length = its.length := rv.length
  have hSn : S ∉ as := fun z => Nat.lt_irrefl _ (hG.above _ z)
  have nd : as.Nodup := List.Pairwise.imp (fun {a b} (h : a < b) => Nat.ne_of_lt h) hG.rise
  have new : ∀ t ∈ as, H t = none := fun t ht => I.hok.fresh (Nat.le_trans hS0 (Nat.le_of_lt (hG.above t ht)))
  have newS : H S = none := I.hok.fresh hS0
  have atP := putE_at as xs 0 (upd H S (.lst (as.map V.ref))) (by omega) nd
  have off : ∀ b, b ∉ as → b ≠ S → putE (upd H S (.lst (as.map V.ref))) as xs 0 b = H b := fun b h1 h2 => by rw [putE_off as xs 0 _ h1, upd_ne h2]
  have low : ∀ b o, s.heap.get? b = some o → b ∉ as ∧ b ≠ S := fun b o q => ⟨fun z => absurd (Heap.lt_size q) (Nat.not_lt.mpr (Nat.le_trans hS0 (Nat.le_of_lt (hG.above b z)))), Nat.ne_of_lt (Nat.lt_of_lt_of_le (Heap.lt_size q) hS0)⟩
  have kp : ∀ b u, H b = some u → (putE (upd H S (.lst (as.map V.ref))) as xs 0) b = some u := fun b u q => by
    rw [off b (fun z => by rw [new b z] at q; cases q) (fun z => by rw [z, newS] at q; cases q)]
    exact q
  have eS : putE (upd H S (.lst (as.map V.ref))) as xs 0 S = some (.lst (as.map V.ref)) := by rw [putE_off as xs 0 _ hSn, upd_same]
  refine ⟨putE (upd H S (.lst (as.map V.ref))) as xs 0, kp, newS, new, hSn, eS, fun j t y h1 h2 => by rw [atP j t y h1 h2, Nat.zero_add], ?_⟩
  refine I.call' (ch := []) rfl ⟨fun b o q _ _ _ => hk b o q, fun b o q _ _ _ => ⟨o.slots, hk b o q⟩, fun b o q n _ => ?_, fun b o q _ => ⟨o, hk b o q⟩, fun b xs q => kp b _ q, fun b o u q => kp b _ q, fun b ps q => ⟨#[], by rw [kp b _ q]; simp⟩⟩ (fun b u q => ?_) I.bare fun b z => by simp at z
  · obtain ⟨z1, z2⟩ := low b o q
    rw [off b z1 z2]
    exact n
  · by_cases hb : b ∈ as
    · obtain ⟨j, hj⟩ := List.mem_iff_getElem?.mp hb
      have hjl : j < xs.length := by
        have := (List.getElem?_eq_some_iff.mp hj).1
        omega
      have hx : xs[j]? = some xs[j] := List.getElem?_eq_getElem hjl
      rw [atP j b _ hj hx] at q
      cases q
      obtain ⟨tk', x', f1, f2⟩ := hG.pairs j b hj
      obtain ⟨u, g1, g2⟩ := rv.get hx
      rw [f1] at g1
      cases g1
      exact ⟨by show 2 ≤ sizeLine; decide, [.int (j : Nat) tk', x'], .cons ⟨tk', by rw [Nat.zero_add]⟩ (.cons g2 .nil), ⟨_, f2, rfl, _, rfl⟩⟩
    · by_cases hb2 : b = S
      · rw [hb2] at q ⊢
        rw [eS] at q
        cases q
        refine ⟨by rw [List.length_map]; omega, acc.toList, c, by rw [hacc]; exact LiI.vals_refs as, ?_⟩
        rw [Array.toArray_toList]
        exact hS
      · rw [off b hb hb2] at q
        exact (I.hok b u q).stay (fun d v _ y => hk d v y) (fun d y => kp d _ y) fun d xs y => kp d _ y
theorem boot_l : bootBuiltins "list" = some (.type "list") := by decide +kernel
theorem boot_e : bootBuiltins "enumerate" = some (.type "enumerate") := by decide +kernel
/-- list(enumerate(e)) -/
theorem pe_listEnum (hc : X.calm = true) (ha : PA X [e] t) (hg : Gl X "list") (hm : X.mg "list" = none) (hg2 : Gl X "enumerate") (hm2 : X.mg "enumerate" = none)
    (hs : starEach [.Call (.Name "enumerate" p2) [e] [] cpos] X.env = (false, eval (.Call (.Name "enumerate" p2) [e] [] cpos) X.env) :: starEach [] X.env := by rfl)
    (hs2 : starEach [e] X.env = (false, eval e X.env) :: starEach [] X.env := by rfl) :
    PE X (.Call (.Name "list" p) [.Call (.Name "enumerate" p2) [e] [] cpos] [] pos) (tListEnum X.K t) := by
  refine ⟨fun pins s σ H Q I hq => ?_⟩
  refine wpAny_Call_Name_kw (ld_blt I hg hm boot_l ?_)
  refine PyProof.Rows.callWith_type1 ?_ hs rfl
  rw [hs]
  show wpAny _ _ (spliced ((false, eval (.Call (.Name "enumerate" p2) [e] [] cpos) X.env) :: backTo pos (starEach [] X.env))) _ _ s
  refine Calls.spliced_cons ?_
  refine wpAny_Call_Name_kw (ld_blt I hg2 hm2 boot_e ?_)
  refine PyProof.Rows.callWith_type1 (thn (ha.run cpos pins s σ H _ I hq) fun us s1 ⟨vs, H1, I1, r1, x, ev, q⟩ => ?_) hs2 rfl
  subst ev
  obtain ⟨a, xs, ex, hxs, k⟩ := q
  subst ex
  obtain ⟨u, rfl, ru⟩ := vals1 r1
  cases ru
  have hh : X.A.handled = none := I1.ok.hd hc
  have fin : ∀ (its : List Value), Vals xs its → xs.length ≤ sizeLine → ∀ (h' : Heap) (tk : Nat) (acc : Array Value) (c : Nat) (as : List Addr), (∀ b o, s1.heap.get? b = some o → h'.get? b = some o) →
      h'.get? (s1.heap.objs.size + 2) = some { cls := .type "list", dict := none, data := .seq acc c, slots := #[] } → as.length = its.toArray.size → EnG (fun i v => its.toArray[i]? = some v) (s1.heap.objs.size + 2) h' as → acc.toList = as.map Value.ref →
      EP X pins σ Q (.ref (s1.heap.objs.size + 2)) { s1 with heap := h', toks := tk } := by
    intro its rv hz h' tk acc c as k1 k2 k3 k4 k5
    have k4' : EnG (fun i v => its[i]? = some v) (s1.heap.objs.size + 2) h' as := ⟨k4.rise, k4.above, fun j a hj => by
      obtain ⟨tk, x, e1, e2⟩ := k4.pairs j a hj
      exact ⟨tk, x, by simpa using e1, e2⟩⟩
    obtain ⟨H', m1, m2, m3, m4, m5, m6, J⟩ := laid (tk := tk) I1 hz rv (Nat.le_trans (Nat.le_succ _) (Nat.le_succ _)) k1 k2 (by rw [k3]; simp) k4' k5
    exact ⟨.ref _, H', J, rfl, k H' _ as m1 m2 m3 m4 m5 (by rw [k3]; simp [rv.length]) m6⟩
  rcases hxs with hl | ht
  · obtain ⟨its, rv, pl, hz⟩ := I1.list hl
    have pl' : s1.heap.IsList a its.toArray := pl.isList
    have hal : a < s1.heap.objs.size := let ⟨_, q, _⟩ := pl'; Heap.lt_size q
    refine wpAny_mono (both (St := fun it i h => h.IsListIter it a i ∧ h.IsList a its.toArray) hh (begins_list a its.toArray) pl' (by rw [List.size_toArray, ← rv.length]; exact hz) hal (fun it ne A' hA => Draws.list hA it a ne its.toArray)
      (fun it h q kk => ⟨⟨_, q, rfl, rfl⟩, pl'.at fun o y => kk a o y⟩) (Q := EP X pins σ Q) (E := X.xe) (fun h' tk acc c as k1 k2 k3 k4 k5 => fin its rv hz h' tk acc c as k1 k2 k3 k4 k5)) (fun v s2 hv => ?_) fun _ _ z => z
    exact Calls.spliced_nil hv
  · obtain ⟨its, rv, pl, hz⟩ := I1.tuple ht
    have pl' : s1.heap.IsTuple a its.toArray := pl
    have hal : a < s1.heap.objs.size := let ⟨_, q, _⟩ := pl'; Heap.lt_size q
    refine wpAny_mono (both (St := fun it i h => h.IsTupleIter it a i ∧ h.IsTuple a its.toArray) hh (begins_tuple a its.toArray) pl' (by rw [List.size_toArray, ← rv.length]; exact hz) hal (fun it ne A' hA => Draws.tuple hA it a ne its.toArray)
      (fun it h q kk => ⟨⟨_, q, rfl, rfl⟩, pl'.at fun o y => kk a o y⟩) (Q := EP X pins σ Q) (E := X.xe) (fun h' tk acc c as k1 k2 k3 k4 k5 => fin its rv hz h' tk acc c as k1 k2 k3 k4 k5)) (fun v s2 hv => ?_) fun _ _ z => z
    exact Calls.spliced_nil hv
end
end En58


set_option Elab.async false
set_option linter.all false
set_option maxRecDepth 100000
set_option maxHeartbeats 4000000
namespace R58
open PySem PySem.Spec PyProof.Rows L2
set_option maxRecDepth 8000 in
theorem ext_tupW (l : Addr) (items : Array Value) (n : Nat) (b : Addr) (items2 : Array Value) (n2 : Nat) (od : Option Addr) (sl : Array (Option Value)) (hs0 : ¬(!items.isEmpty && Builtin.List.listTooLong (items.size + items2.size)) = true) (hs1 : items.size ≤ sizeLine) (hs2 : items.size + items2.size ≤ sizeLine + 1) :
    Meets (Builtin.«list.extend» ⟨[.ref l, .ref b], []⟩) (fun _ R s => s.heap.get? l = some { cls := .type "list", dict := none, data := .seq items n, slots := #[] } ∧ s.heap.get? b = some { cls := .type "tuple", dict := od, data := .seq items2 n2, slots := sl } ∧ R (.ok (.ret Value.none)) { s with heap := s.heap.update l (Obj.mapSeq fun x => x ++ items2), toks := s.toks }) :=
  .of_wp fun prog w A R s h => by
    obtain ⟨hp, g, d, tk, os⟩ := s; obtain ⟨hl, hb, h⟩ := h
    have f1 := AutoSeq1.idx_int; have f2 := AutoSeq1.sub_tuple_tuple; have f3 := AutoSeq1.sub_list_list; have f4 := AutoSeq1.sub_tuple_list; have f5 := AutoSeq1.sub_list_tuple
    have hz' : (items ++ items2).size ≤ sizeLine + 1 := by rw [Array.size_append]; exact hs2
    wp_walk using (wpAny_updateSeq hl rfl (hz := hs1) (_hz' := hz')), AutoSeq1.wpAny_loadPart' hl, AutoSeq1.wpAny_loadPart' hb
    exact ⟨_, rfl, h⟩
section
variable {X : Cx}
/-- xs.extend(t), t a tuple -/
def rExtT (K : PySem.W.Frag) : V → List V → Hp → VK → Prop := fun x vs H Q => ∃ l b xs zs, x = .ref l ∧ vs = [.ref b] ∧ H l = some (.lst xs) ∧ SqT K H b zs ∧ xs.length + zs.length ≤ sizeLine ∧ Q .non (upd H l (.lst (xs ++ zs)))
theorem mt_extT : MtM X "list.extend" (rExtT X.K) := by
  intro pins s σ H x vs v us Q I rx rv h
  obtain ⟨l, b, xs, zs, rfl, rfl, hH, hB, hz, q⟩ := h
  cases rx
  obtain ⟨u, rfl, ru⟩ := rv.one
  cases ru
  obtain ⟨z, its, n, r, hl, e⟩ := I.lstM hH
  obtain ⟨its2, r2, ⟨⟨oc, od, dt, sl⟩, e2, hc, n2, hd⟩, z2⟩ := I.tuple hB
  simp only at hc hd
  subst hc hd
  have hl2 := r2.length
  have hsz : its.toArray.size + its2.toArray.size ≤ sizeLine := by rw [List.size_toArray, List.size_toArray]; omega
  have hlong : ¬ (!its.toArray.isEmpty && Builtin.List.listTooLong (its.toArray.size + its2.toArray.size)) = true := by
    rw [notLongL hsz, Bool.and_false]
    exact Bool.false_ne_true
  refine call_meets F.slot_list_extend ⟨_, e, rfl⟩ F.entry_list_extend (F.args_list_extend_2 _ _)
    (ext_tupW l its.toArray n b its2.toArray n2 od sl hlong (by rw [List.size_toArray]; omega) (by omega)) ⟨e, e2, ?_⟩
  refine ⟨.non, _, I.lset (its' := its ++ its2) hH e (by simp) (r.append r2) ?_, rfl, q⟩
  rw [List.length_append]
  omega
/-- sorted(d), d a dict of any size whose keys are ints -/
theorem call_sortedDA (hcalm : X.calm = true) : CallR X (.builtin "sorted") (fun xs H Q => ∃ (a : Addr) (kvs : List (Key × V)) (ks : List Int), xs = [.ref a] ∧ Rd H a (.dK kvs) ∧ kvs.map (·.1) = ks.map Sum.inl ∧
    ∀ (ys : List Int) (p : Addr), ys.Perm ks → ys.Pairwise (· ≤ ·) → H p = none → Q (.ref p) (upd H p (.lst (ys.map V.int)))) := by
  intro pins s σ H xs us Q I r q
  obtain ⟨a, kvs, ks, ex, hd, hks, q⟩ := q
  subst ex
  obtain ⟨u, eu, rx⟩ := vals1 r
  subst eu
  cases rx
  obtain ⟨z, lo, vs, rel, dd⟩ := dk_rd I.hok hd
  obtain ⟨ep, hat⟩ := dd.dictAt
  have hkeys : vs.map (·.1) = ks.map Sum.inl := rel.keys.symm.trans hks
  have hl : vs.length = ks.length := by
    have e := congrArg List.length hkeys
    rw [List.length_map, List.length_map] at e
    exact e
  have hkl : kvs.length = ks.length := by
    have e := congrArg List.length hks
    rw [List.length_map, List.length_map] at e
    exact e
  have h16 : vs.length ≤ sizeLine := by rw [hl, ← hkl]; exact z
  refine Calls.call_function_entry PyProof.Rows.kind_sorted PyProof.Rows.plain_sorted PyProof.Rows.entry_sorted (PyProof.Rows.args_sorted1 _) ?_
  unfold Builtin.«sorted»
  refine wpAny_bind (m := checkCount "sorted" 1 1 _) (wpAny_pure ?_)
  refine wpAny_bind (PySem.W.kdu_collect (A := X.A.in1) (PySem.W.kdl_dict (knd := mixKind X.prog X.w) (kvs := vs) (ep := ep) lo) (I.ok.hd hcalm) hat h16 fun h' tk acc hk hacc => ?_)
  have hal : acc.toList.length = ks.length := by rw [Array.length_toList, hacc.1, hl]
  have hS : IntsAre acc.toList ks := ints_each hal fun j v e => by
    obtain ⟨k, x, e1, e2⟩ := hacc.2 j v (by rw [← Array.getElem?_toList]; exact e)
    have e3 : (vs.map (·.1))[j]? = some k := by rw [List.getElem?_map, e1]; rfl
    rw [hkeys, List.getElem?_map] at e3
    cases e4 : ks[j]? with
    | none => rw [e4] at e3; cases e3
    | some y =>
      rw [e4] at e3
      have e5 : Sum.inl y = k := Option.some.inj e3
      subst e5
      rcases keyIs_shape (show keyIs (Sum.inl y) v = true from e2) with ⟨i, t, ek, ev⟩ | ⟨z, t, ek, ev⟩
      · cases ek
        exact ⟨y, t, rfl, ev⟩
      · cases ek
  have I1 : Inv X pins σ H { s with heap := h', toks := tk } := I.kept hk
  refine wpAny_bind (wpAny_newList ?_ (by rw [hal, ← hkl]; exact z))
  have hoL : (h'.push (seqObj "list" acc.toList.toArray 0)).get? h'.objs.size = some (seqObj "list" acc.toList.toArray 0) := Heap.get?_push_size _ rfl
  show wpAny _ _ _ _ _ { s with heap := h'.push (seqObj "list" acc.toList.toArray 0), toks := tk }
  refine wpAny_bind (wpAny_holding (wpAny_call_entry PyProof.Rows.slot_list_sort ⟨_, hoL, rfl⟩ PyProof.Rows.entry_list_sort
    (PyProof.Rows.list_sort_treeAny (s := { s with heap := h'.push (seqObj "list" acc.toList.toArray 0), toks := tk }) hoL hS (by rw [hal, ← hkl]; exact z) fun out ys g1 g2 g3 => ⟨_, rfl, ?_⟩) (PyProof.Rows.args_list_sort _)))
  obtain ⟨e', he'⟩ := PyProof.Rows.sortedHeap_at (vs := acc.toList) (out := out) hoL
  have hlen : (ys.map V.int).length ≤ sizeLine := by
    rw [List.length_map, g2.length_eq, ← hkl]
    exact z
  refine wpAny_pure ⟨_, rfl, .ref h'.objs.size, upd H h'.objs.size (.lst (ys.map V.int)), I1.laid (t' := tk) (fun b u e => ?_) (Nat.le_refl _)
    (show ObjOk X.prog X.w _ _ _ (.lst (ys.map V.int)) from ⟨hlen, out.toList, e', vals_of_ints g1, by rw [Array.toArray_toList]; exact he'⟩), rfl, q ys _ g2 g3 (I1.hok.fresh (Nat.le_refl _))⟩
  have hb : b < h'.objs.size := Heap.lt_size e
  rw [PyProof.Rows.sortedHeap_old (Nat.ne_of_lt hb) (by rw [size_push']; exact Nat.lt_succ_of_lt hb)]
  exact Heap.get?_push_of_some _ e
/-- a dict comprehension over a list that stays -/
theorem dc_list {K : PySem.W.Frag} {a : Addr} {xs : List V} {g : TG} {tt : TT} {tk tv : TE} {vs : List Nat} {σ : L2.St} {H1 : Hp} {D : Addr} {Qd : Hp → Prop} (Pv : Nat → Hp → Prop) (h0 : Pv 0 (upd H1 D (.dK []))) (hl : ∀ i H, i ≤ xs.length → Pv i H → SqL K H a xs)
    (hs : ∀ i x H, xs[i]? = some x → Pv i H → g x (wipe σ vs) H fun σ2 H2 => wipe σ2 vs = wipe σ vs ∧ tt σ2 H2 fun b H3 =>
      if b = true then tk σ2 H3 fun y H4 => tv σ2 H4 fun z H5 => ∃ kvs k, y = kV k ∧ H5 D = some (.dK kvs) ∧ kvs.length < sizeLine ∧ Pv (i + 1) (upd H5 D (.dK (putK kvs k z))) else Pv (i + 1) H3) (hd : ∀ H, Pv xs.length H → Qd H) :
    ∃ W : Nat → Nat → Hp → Prop, (∃ m, W 0 m (upd H1 D (.dK []))) ∧ ∀ i m H, W i m H →
      ((Itl K a).stop i H ∧ Qd H) ∨ ((Itl K a).go i H ∧ ∃ Nx : Hp → Prop, (∀ H', Nx H' → ∃ m', m' < m ∧ W (i + 1) m' H') ∧ ∀ x H', (Itl K a).yld i H x H' → g x (wipe σ vs) H' fun σ2 H2 => wipe σ2 vs = wipe σ vs ∧ tt σ2 H2 fun b H3 =>
        if b = true then tk σ2 H3 fun y H4 => tv σ2 H4 fun z H5 => ∃ kvs k, y = kV k ∧ H5 D = some (.dK kvs) ∧ kvs.length < sizeLine ∧ Nx (upd H5 D (.dK (putK kvs k z))) else Nx H3) := by
  refine ⟨fun i m H => m = xs.length - i ∧ i ≤ xs.length ∧ Pv i H, ⟨xs.length, by simp, Nat.zero_le _, h0⟩, ?_⟩
  rintro i m H ⟨rfl, hi, p⟩
  have q := hl i H hi p
  by_cases hlt : i < xs.length
  · refine .inr ⟨⟨xs, xs[i], q, by simp [hlt]⟩, Pv (i + 1), fun H' p' => ⟨xs.length - (i + 1), by omega, rfl, hlt, p'⟩, fun x H' y => ?_⟩
    obtain ⟨e, y⟩ := y
    subst e
    exact hs i x _ (y xs q) p
  · have e : i = xs.length := by omega
    subst e
    exact .inl ⟨⟨xs, q, Nat.le_refl _⟩, hd H p⟩
end
end R58


set_option Elab.async false
set_option linter.all false
set_option maxRecDepth 100000
set_option maxHeartbeats 4000000
namespace R58
open PySem PySem.Spec PyProof.Rows L2
/-- the class has no == and no != of its own, object is its only base -/
def cmpB (K : PySem.W.Frag) (C : Addr) : Bool := match K.lookup C with
  | some ⟨.type t, _, .cls cd, sl⟩ => decide (t = "type") && (decide (cd.mro = [.ref C, .type "object"]) && (!cd.hasDel && ((match sl.toList with
    | [_, _, _, _, some (.builtin _), _] => true
    | _ => false) && (PySem.W.nsOkIn K cd.ns && (decide (PySem.W.nsIn K cd.ns "__eq__" = some none) && decide (PySem.W.nsIn K cd.ns "__ne__" = some none))))))
  | _ => false
theorem ba {a b : Bool} (h : (a && b) = true) : a = true ∧ b = true := Bool.and_eq_true_iff.mp h
theorem cmp_of {K : PySem.W.Frag} {h : Heap} {x C dx : Addr} (X : K.In h) (c : cmpB K C = true) (hx : h.get? x = some (PySem.W.instObj C dx)) : h.CmpInst x C [.type "object"] := by
  unfold cmpB at c
  split at c
  · rename_i t dd cd sl q
    obtain ⟨c1, c⟩ := ba c
    obtain ⟨c2, c⟩ := ba c
    obtain ⟨c3, c⟩ := ba c
    obtain ⟨c4, c⟩ := ba c
    obtain ⟨c5, c⟩ := ba c
    obtain ⟨c6, c7⟩ := ba c
    have e1 : t = "type" := of_decide_eq_true c1
    have e2 := of_decide_eq_true c2
    have e6 := of_decide_eq_true c6
    have e7 := of_decide_eq_true c7
    subst e1
    split at c4
    · rename_i k0 k1 k2 k3 nw k5 es
      have esl : sl = #[k0, k1, k2, k3, some (.builtin nw), k5] := by
        rw [← es, Array.toArray_toList]
      subst esl
      obtain ⟨nm, bs, mro, ns, q', hdct, sn, sub, ab, col, hdel⟩ := cd
      simp only at e2 c3 c5 e6 e7
      subst e2
      have hde : hdel = false := by
        cases hdel with
        | false => rfl
        | true => cases c3
      subst hde
      exact ⟨_, nm, q', ns, bs, hdct, sn, sub, ab, col, dd, k0, k1, k2, k3, k5, nw, h.nsMap ns, hx, rfl, X _ _ q, .of_isNs (PySem.W.isNs_of_in X c5), PySem.W.nsMap_none_of_in X c5 e6, PySem.W.nsMap_none_of_in X c5 e7⟩
    · cases c4
  · cases c
section
variable {X : Cx}
/-- a != b, two instances of one class without == of its own: whether they are one -/
def rNeI (K : PySem.W.Frag) : R2 := fun x y H Q => ∃ a b C dx dy fs gs, x = .ref a ∧ y = .ref b ∧ H a = some (.ins C dx fs) ∧ H b = some (.ins C dy gs) ∧ cmpB K C = true ∧ Q (.bl (!decide (a = b))) H
theorem op_neI (hu : X.A.units + 1 < cLine) : OpR X (compareOp .NotEq) (rNeI X.K) := by
  intro pins s σ H x y v u Q I rx ry h
  obtain ⟨a, b, C, dx, dy, fs, gs, rfl, rfl, ha, hb, c, q⟩ := h
  cases rx
  cases ry
  obtain ⟨_, _, _, h1, _⟩ := (show ObjOk X.prog X.w H s.heap a (.ins C dx fs) from I.hok a _ ha)
  obtain ⟨_, _, _, h2, _⟩ := (show ObjOk X.prog X.w H s.heap b (.ins C dy gs) from I.hok b _ hb)
  have ca := cmp_of I.kIn c h1
  have cb := cmp_of I.kIn c h2
  obtain ⟨hp, g, d, tk, os⟩ := s
  by_cases e : a = b
  · subst e
    rw [decide_eq_true rfl] at q
    exact compareOp_ne_same PySem.F.cmp_object ca hu ⟨.bl false, H, I, rfl, q⟩
  · rw [decide_eq_false e] at q
    exact compareOp_ne_other PySem.F.cmp_object PySem.F.cmp_object ca cb e hu ⟨.bl true, H, I, rfl, q⟩
end
end R58


set_option Elab.async false
set_option linter.all false
set_option maxRecDepth 100000
set_option maxHeartbeats 4000000
namespace R58
open PySem PySem.Spec PyProof.Rows L2
/-- the function object of a lambda (no captured names) stands at f, its code object at c' -/
def LamO (q : Str) (params : Arguments) (body : Expr) (scope : Scope) (f c' : Addr) : HO := .ext fun h => ∃ pm ctv : Value, h.get? f = some (PySem.W.kla_obj "<lambda>" q params body scope [] pm c' ctv)
section
variable {X : Cx} {pins : List (Addr × Obj)} {σ : L2.St} {H : Hp} {s : Shared}
theorem lam_track {q : Str} {params : Arguments} {body : Expr} {scope : Scope} {c' : Addr} {pm ctv : Value} {h' : Heap} {tk : Nat} (I : Inv X pins σ H { s with heap := h', toks := tk }) :
    Inv X pins σ (upd H h'.objs.size (LamO q params body scope h'.objs.size c')) { s with heap := h'.push (PySem.W.kla_obj "<lambda>" q params body scope [] pm c' ctv), toks := tk } := by
  have e : (h'.push (PySem.W.kla_obj "<lambda>" q params body scope [] pm c' ctv)).get? h'.objs.size = some (PySem.W.kla_obj "<lambda>" q params body scope [] pm c' ctv) := Heap.get?_push_size _ rfl
  exact I.laid (t' := tk) (fun b u x => Heap.get?_push_of_some _ x) (Nat.le_refl _) ⟨⟨pm, ctv, e⟩, ⟨_, e⟩, fun h1 h2 ⟨pm, ctv, a⟩ st => ⟨pm, ctv, st _ a⟩⟩
/-- a lambda is made: its function object is new and known -/
theorem lam_make3 {T : List (Addr × Str)} {c P : Addr} {params : Arguments} {body : Expr} {scope : Scope} {pos : Pos} {E : Value → Shared → Prop} {Q : Value → Shared → Prop} (I : Inv X pins σ H s) (TB : LamX.TabB X.base X.mg c P) (hcode : X.env.code = .ref c)
    (hm : (P, X.env.qual ++ "<lambda>") ∈ T) (hu : ∀ p ∈ T, p.1 = P → p.2 = X.env.qual ++ "<lambda>") (hT : LamX.Tabs T H) (hdef : defaultsOf params X.env = ([], [])) (hcl : closureFor scope X.env = pure [])
    (h : ∀ (f c' : Addr) (H1 : Hp) (s' : Shared), Inv X pins σ H1 s' → LamX.ExtN H H1 → LamX.Tabs T H1 → H f = none → H1 f = some (LamO (X.env.qual ++ "<lambda>") params body scope f c') → H1 c' = some (LamX.CodeO c' (X.env.qual ++ "<lambda>")) → Q (.ref f) s') :
    wpAny (model X.prog X.w) X.A (eval (.Lambda params body scope pos) X.env) Q E s := by
  obtain ⟨ps, hP, ht, ha⟩ := hT _ hm
  refine PySem.W.kla_eval hdef ?_
  have bP : s.heap.BuiltinsAt X.mg P := TB.bm.keeps I.bk
  have hP' : s.heap.get? P = some { cls := .none, data := .fields ps } := I.hok P _ hP
  cases hc : codeAmong pos ps.toList with
  | none =>
    refine PySem.W.kla_makeFunction (mg := X.mg) (c := c) (P := P) (ps := ps) hcl I.ok.glob (I.mod.glob.keeps I.bk) hcode (TB.code.keeps I.bk) hP' ht hc TB.gP bP fun c' ctv h' tk hx hge hlt hrec htb => ?_
    obtain ⟨c2, oc, vs, t, e2, hoc, hd, hv⟩ := hrec
    cases e2
    have hsz : s.heap.objs.size ≤ h'.objs.size := Nat.le_trans hge (Nat.le_of_lt hlt)
    have nC : H c' = none := I.hok.fresh hge
    have nF : H h'.objs.size = none := I.hok.fresh hsz
    have I1 := LamX.inv_table (q := X.env.qual ++ "<lambda>") (t' := tk) (more := #[rawInt pos.line, rawInt pos.col, .ref c']) (h' := h') I hP
      (fun b o hb e => hx b o hb e) htb hge ⟨oc, vs, t, hoc, hd, hv⟩
    have I2 := lam_track (q := X.env.qual ++ "<lambda>") (params := params) (body := body) (scope := scope) (c' := c') (pm := (X.mg "__name__").getD .none) (ctv := ctv) I1
    have n1 : c' ≠ h'.objs.size := Nat.ne_of_lt hlt
    have n2 : P ≠ h'.objs.size := Nat.ne_of_lt (Nat.lt_of_lt_of_le (Heap.lt_size hP') hsz)
    have nPc : P ≠ c' := ne_of_none hP nC
    have hE : LamX.ExtN H (upd (upd (upd H P (.tbl (ps ++ #[rawInt pos.line, rawInt pos.col, .ref c']))) c' (LamX.CodeO c' (X.env.qual ++ "<lambda>"))) h'.objs.size (LamO (X.env.qual ++ "<lambda>") params body scope h'.objs.size c')) := fun b o e n => by
      rw [upd_ne (ne_of_none e nF), upd_ne (ne_of_none e nC), upd_ne (fun z => n ps (Option.some.inj (e.symm.trans (by rw [z]; exact hP))))]
      exact e
    have eL : (ps ++ #[rawInt pos.line, rawInt pos.col, .ref c']).toList = ps.toList ++ [rawInt pos.line, rawInt pos.col, .ref c'] := by simp
    refine h h'.objs.size c' _ _ I2 hE (fun p hp => ?_) nF upd_same (by rw [upd_ne n1, upd_same])
    by_cases hb : p.1 = P
    · rw [hu p hp hb, hb]
      refine ⟨_, by rw [upd_ne n2, upd_ne nPc, upd_same], by rw [eL]; exact PySem.TriplesOk_snoc _ _ _ _ ht, fun p' cv hcv => ?_⟩
      rw [eL] at hcv
      rcases LamX.among_app _ ht hcv with z | z
      · obtain ⟨c0, e1, e2⟩ := ha p' cv z
        exact ⟨c0, e1, hE _ _ e2 LamX.codeO_ne⟩
      · exact ⟨c', z, by rw [upd_ne n1, upd_same]⟩
    · obtain ⟨ps', a1, a2, a3⟩ := hT p hp
      refine ⟨ps', by rw [upd_ne (ne_of_none a1 nF), upd_ne (ne_of_none a1 nC), upd_ne hb]; exact a1, a2, fun p' cv hcv => ?_⟩
      obtain ⟨c0, e1, e2⟩ := a3 p' cv hcv
      exact ⟨c0, e1, hE _ _ e2 LamX.codeO_ne⟩
  | some cv =>
    obtain ⟨c', e, hco⟩ := ha pos cv hc
    subst e
    refine PySem.W.kla_makeFunctionHit (mg := X.mg) (c := c) (P := P) (ps := ps) hcl I.ok.glob (I.mod.glob.keeps I.bk) hcode (TB.code.keeps I.bk) hP' ht hc bP fun ctv h' tk hx hsz => ?_
    have nF : H h'.objs.size = none := I.hok.fresh hsz
    have I1 : Inv X pins σ H { s with heap := h', toks := tk } := I.kept fun b o e => hx b o e
    have I2 := lam_track (q := X.env.qual ++ "<lambda>") (params := params) (body := body) (scope := scope) (c' := c') (pm := (X.mg "__name__").getD .none) (ctv := ctv) I1
    have k : ∀ b o, H b = some o → upd H h'.objs.size (LamO (X.env.qual ++ "<lambda>") params body scope h'.objs.size c') b = some o := fun b o e => by
      rw [upd_ne (ne_of_none e nF)]
      exact e
    exact h h'.objs.size c' _ _ I2 (LamX.ExtN.of k) (hT.ext k) nF upd_same (k _ _ hco)
/-- a lambda as a value -/
def tLamV (T : List (Addr × Str)) (q : Str) (params : Arguments) (body : Expr) (scope : Scope) : TE := fun _ H Q => LamX.Tabs T H ∧ ∀ (f c' : Addr) (H1 : Hp), LamX.ExtN H H1 → LamX.Tabs T H1 → H f = none → H1 f = some (LamO q params body scope f c') → H1 c' = some (LamX.CodeO c' q) → Q (.ref f) H1
end
section
variable {X : Cx}
theorem pe_lamV {T : List (Addr × Str)} {c P : Addr} {params : Arguments} {body : Expr} {scope : Scope} {pos : Pos} (TB : LamX.TabB X.base X.mg c P) (hcode : X.env.code = .ref c)
    (hm : (P, X.env.qual ++ "<lambda>") ∈ T) (hu : ∀ p ∈ T, p.1 = P → p.2 = X.env.qual ++ "<lambda>") (hdef : defaultsOf params X.env = ([], []) := by rfl) (hcl : closureFor scope X.env = pure [] := by rfl) :
    PE X (.Lambda params body scope pos) (tLamV T (X.env.qual ++ "<lambda>") params body scope) :=
  ⟨fun pins s σ H Q I h => lam_make3 I TB hcode hm hu h.1 hdef hcl fun f c' H1 s' I1 e1 e2 e3 e4 e5 => ⟨.ref f, H1, I1, rfl, h.2 f c' H1 e1 e2 e3 e4 e5⟩⟩
end
end R58


set_option Elab.async false
set_option linter.all false
set_option maxRecDepth 100000
set_option maxHeartbeats 4000000
namespace R58
open PySem PySem.Spec PyProof.Rows L2
/-- a lambda of one name that gives back the first of it -/
structure First (params : Arguments) (body : Expr) (scope : Scope) : Prop where
  ex : ∃ (x : Str) (p1 p2 p3 : Pos) (j : Nat), body = .Subscript (.Name x p1) (.Constant (.int 0) j p2) p3 ∧ scope.names = [(x, .local)] ∧ (x == ("__debug__" : Str)) = false ∧
    ∀ (q : Str) (pm cv ctv u : Value), bindArgs (PySem.W.kla_fn "<lambda>" q params body scope [] pm cv ctv) ⟨[u], []⟩ = pure [(x, u)]
  kind : scope.kind = .function
  co : scope.isCoroutine = false
  gen : scope.isGenerator = false
theorem first_call {prog : Program} {w : World} {A : Around} {s : Shared} {h₀ : Heap} {L f c' t : Addr} {m : Str → Option Value} {need : List (Addr × Obj)} {q : Str} {params : Arguments} {body : Expr} {scope : Scope} {pm ctv x : Value} {k : Int} {tk : Tok}
    (Fi : First params body scope) (F : Fr h₀ L s.heap m) (N : News h₀ L s.heap need) (hf : s.heap.get? f = some (PySem.W.kla_obj "<lambda>" q params body scope [] pm c' ctv)) (hcd : s.heap.CodeRec (.ref c') q)
    (ht : IsTup s.heap t ([.int k tk, x] : List Value).toArray) (lim : s.heap.NoLimit) (hroom : A.depth < recursionLimit) :
    wpAny (model prog w) A (call (.ref f) [.ref t]) (KskEnd h₀ L m need k s) (fun _ _ => False) s := by
  obtain ⟨⟨x0, p1, p2, p3, j, eb, en, hdb, hbind⟩, hk, hco, hgen⟩ := Fi
  have rc : codeAny (model prog w) A (.call (.ref f) ⟨[.ref t], []⟩) (fun r s' => ∃ v, r = .ok (.ret v) ∧ KskEnd h₀ L m need k s v s') s := by
    refine PySem.W.kla_callFunE hroom hf rfl hco hgen rfl hcd ?_
    rw [hbind]
    refine wpAny_pure (wpAny_newFunctionEnv (fun y hy => ?_) (fun y hy => ?_) (fun h₁ hns hsb => ⟨lim.fresh _ hsb, ?_⟩) hk)
    · have hy' : y ∈ scope.names := hy
      rw [en, List.mem_singleton] at hy'
      rw [hy']
      intro z
      cases z
    · rw [List.mem_singleton.mp hy]
      show scope.names.lookup x0 = some .local
      rw [en]
      simp
    · have hk₁ : ∀ b o, s.heap.get? b = some o → h₁.get? b = some o := fun b o e => hsb.extBut b o (Nat.ne_of_lt (Heap.lt_size e)) (Heap.get?_push_of_some _ e)
      have ht1 : IsTup h₁ t ([.int k tk, x] : List Value).toArray := let ⟨o, e, r⟩ := ht; ⟨o, hk₁ _ _ e, r⟩
      subst eb
      refine PySem.W.kla_codeExpr (wpAny_mono (Subscript_ (wpAny_Name (wpAny_loadName_local (m := fun y => [(x0, Value.ref t)].reverse.lookup y) (v := .ref t) hk (by show scope.names.lookup x0 = some .local; rw [en]; simp) hns (by simp) (wpAny_Constant_int ?_)) hdb)) (fun v s' hq => hq) fun _ _ z => z)
      refine subscriptTail_builtinR (x := .int k tk) ht1.typeIs slot_tuple_getitem.lookup (PyProof.Rows.getItem_tuple (j := 0) (x := .int k tk) ht1 (by decide) (by decide) (by rfl) (by rfl) ⟨rfl, ?_⟩) (by with_unfolding_all rfl)
      exact ⟨_, rfl, KskEnd.intro (F.kept hk₁) (N.grown hk₁) fun p hp => hp⟩
  exact wpAny_call (codeAny_mono rc fun r s' ⟨v, e, h⟩ => by subst e; exact h)
/-- the sorted pairs: as many times each, ascending by the number -/
def rSortLam (K : PySem.W.Frag) (q : Str) (params : Arguments) (body : Expr) (scope : Scope) : List V → List V → Hp → VK → Prop := fun vs zs H Q => ∃ (a f c' : Addr) (ts : List Addr) (kz : List Int),
  vs = [V.ref a] ∧ zs = [V.ref f] ∧ H f = some (LamO q params body scope f c') ∧ H c' = some (LamX.CodeO c' q) ∧ SqL K H a (ts.map V.ref) ∧ kz.length = ts.length ∧
  (∀ (j : Nat) (t : Addr) (k : Int), ts[j]? = some t → kz[j]? = some k → ∃ x, SqT K H t [.int k, x]) ∧
  ∀ (ps : List (Int × Addr)) (p : Addr), ps.Perm (kz.zip ts) → ps.Pairwise (fun x y => x.1 ≤ y.1) → H p = none → Q (.ref p) (upd H p (.lst (ps.map fun y => V.ref y.2)))
theorem zip_vals : ∀ (kz : List Int) (ts : List Addr), (kz.zip (ts.map Value.ref)) = (kz.zip ts).map fun y => (y.1, Value.ref y.2)
  | [], _ => by simp
  | _ :: _, [] => by simp
  | k :: kz, t :: ts => by
    have ih := zip_vals kz ts
    simp only [List.map_cons, List.zip_cons_cons, ih]
theorem refs_of_vals : ∀ {ts : List Addr} {its : List Value}, Vals (ts.map V.ref) its → its = ts.map Value.ref
  | [], _, .nil => rfl
  | t :: ts, _, .cons r rv => by
    have e1 : _ = Value.ref t := r
    rw [e1, refs_of_vals rv]
    rfl
theorem objOk_there {P : Program} {w : World} {H : Hp} {h : Heap} {a : Addr} {o : HO} (x : ObjOk P w H h a o) : ∃ u, h.get? a = some u := by
  cases o with
  | lst xs => obtain ⟨_, _, _, _, e⟩ := x; exact ⟨_, e⟩
  | tup xs => obtain ⟨_, _, _, o, e, _⟩ := x; exact ⟨_, e⟩
  | dK kvs => obtain ⟨_, _, _, _, o, _, _, e, _⟩ := x; exact ⟨_, e⟩
  | dT kvs => obtain ⟨_, _, _, _, o, _, _, e, _⟩ := x; exact ⟨_, e⟩
  | set S n => obtain ⟨o, _, _, _, e, _⟩ := x; exact ⟨_, e⟩
  | ins C dx fs => obtain ⟨_, _, _, e, _⟩ := x; exact ⟨_, e⟩
  | own y => exact x
  | xd fs => obtain ⟨_, ⟨_, _, _, e, _⟩, _⟩ := x; exact ⟨_, e⟩
  | rng lo hi => obtain ⟨_, _, _, e⟩ := x; exact ⟨_, e⟩
  | frz ob u => obtain ⟨e, _⟩ := x; exact ⟨_, e⟩
  | tbl ps => exact ⟨_, (show h.get? a = some _ from x)⟩
  | met f y => exact ⟨_, (show h.get? a = some _ from x)⟩
  | ext φ => obtain ⟨_, e, _⟩ := x; exact e
section
variable {X : Cx}
theorem cr_sortedLam {q : Str} {params : Arguments} {body : Expr} {scope : Scope} (Fi : First params body scope) (hroom : X.A.in1.in1.depth < recursionLimit) : CallRK X (.builtin "sorted") [Str.ofString "key"] (rSortLam X.K q params body scope) := by
  intro pins s σ H vs zs us ws Q I r rz h
  obtain ⟨a, f, c', ts, kz, rfl, rfl, hF, hC, hs, hlen, hts, k⟩ := h
  obtain rfl := Vals.ref1 r
  obtain ⟨w1, rfl, e1⟩ := vals1 rz
  obtain rfl : w1 = Value.ref f := e1
  obtain ⟨its, rv, hl, hz⟩ := I.list hs
  have eits := refs_of_vals rv
  obtain ⟨m, F⟩ := I.fr
  obtain ⟨⟨pm, ctv, hf⟩, _, _⟩ := (show ObjOk X.prog X.w H s.heap f (LamO q params body scope f c') from I.hok f _ hF)
  obtain ⟨⟨oc, vc, tc, hoc, hdc, hvc⟩, _, _⟩ := (show ObjOk X.prog X.w H s.heap c' (LamX.CodeO c' q) from I.hok c' _ hC)
  have N : News X.base X.env.locals s.heap (allNews X.base s.heap X.env.locals) := news_all
  have inN : ∀ b o, b ≠ X.env.locals → s.heap.get? b = some o → ∀ (h : Heap) (own : List (Addr × Obj)), Fr X.base X.env.locals h m → News X.base X.env.locals h (allNews X.base s.heap X.env.locals ++ own) → h.get? b = some o := fun b o nb e h own F' N' => by
    cases z : X.base.get? b with
    | some u =>
      have e2 := I.bk b u z
      rw [e] at e2
      cases e2
      exact F'.keep b _ z
    | none => exact (N' (b, o) (List.mem_append_left _ (mem_allNews nb z e))).1
  have neL : ∀ b u, H b = some u → b ≠ X.env.locals := fun b u e z => by
    rw [z, I.free] at e
    cases e
  have lim := I.mod.nolimit
  have hlv : kz.length = its.length := by rw [hlen, eits, List.length_map]
  have hzl : its.length ≤ sizeLine := by rw [← rv.length]; exact hz
  refine ksk_sortedAny (b := false) (kz := kz) (f := .ref f) (news := allNews X.base s.heap X.env.locals) F N hl.isList hlv hzl (ksk_s1 _ _) (fun _ => ksk_l1 _ _) (fun _ => ksk_t1 _ _) (fun i v n hv hk h tk own F' N' => ?_) fun D h' tk out c F' N' l1 ko => ?_
  · rw [eits, List.getElem?_map] at hv
    cases z : ts[i]? with
    | none => rw [z] at hv; cases hv
    | some t =>
      rw [z] at hv
      have ev : Value.ref t = v := Option.some.inj hv
      subst ev
      obtain ⟨x, hx⟩ := hts i t n z hk
      obtain ⟨it2, rv2, tp, _⟩ := I.tuple hx
      obtain ⟨u1, u2, rfl, r1, r2⟩ := vals2 rv2
      obtain ⟨t1, rfl⟩ := r1
      obtain ⟨ot, eot, ct, nt, dt⟩ := tp
      have neT : t ≠ X.env.locals := by
        rcases hx with (hx | ⟨o, hx⟩) | ⟨o, its', n', hx, _⟩
        · exact neL _ _ hx
        · exact neL _ _ hx
        · intro z2
          have e3 := I.mod.kin _ _ hx
          rw [z2] at e3
          exact absurd (Heap.lt_size e3) (Nat.not_lt.mpr F.above)
      exact first_call (s := { s with heap := h, toks := tk }) Fi F' N' (inN f _ (neL _ _ hF) hf h own F' N') ⟨c', oc, vc, tc, rfl, inN c' _ (neL _ _ hC) hoc h own F' N', hdc, hvc⟩ ⟨ot, inN t _ neT eot h own F' N', ct, nt, dt⟩ (lim.keeps F'.keep) hroom
  · obtain ⟨ps, hp, ho, hsrt⟩ := ko
    rw [eits, zip_vals] at hp
    have keep : ∀ b o, b ≠ X.env.locals → s.heap.get? b = some o → h'.get? b = some o := fun b o nb e => by
      cases z : X.base.get? b with
      | some u =>
        have e2 := I.bk b u z
        rw [e] at e2
        cases e2
        exact F'.keep b _ z
      | none => exact (N' (b, o) (List.mem_cons_of_mem _ (mem_allNews nb z e))).1
    obtain ⟨hD, hDL, hDb⟩ := N' _ List.mem_cons_self
    dsimp only at hD hDL hDb
    have noD : s.heap.get? D = none := by
      cases z : s.heap.get? D with
      | none => rfl
      | some o => exact absurd (l1 _ (mem_allNews hDL hDb z)) (Nat.lt_irrefl _)
    have hDn : H D = none := by
      cases z : H D with
      | none => rfl
      | some u =>
        obtain ⟨o, e⟩ := objOk_there (I.hok D u z)
        rw [noD] at e
        cases e
    let g : Int × Value → Int × Addr := fun y => (y.1, match y.2 with | .ref a => a | _ => 0)
    have eps : ps = (ps.map g).map fun y => (y.1, Value.ref y.2) := by
      rw [List.map_map]
      conv => lhs; rw [← List.map_id ps]
      refine List.map_congr_left fun y hy => ?_
      obtain ⟨z, _, rfl⟩ := List.mem_map.mp (hp.mem_iff.mp hy)
      rfl
    have hp' : (ps.map g).Perm (kz.zip ts) := by
      have e := hp.map g
      rw [List.map_map] at e
      have e2 : (kz.zip ts).map (g ∘ fun y => (y.1, Value.ref y.2)) = kz.zip ts := by
        conv => rhs; rw [← List.map_id (kz.zip ts)]
        exact List.map_congr_left fun y _ => rfl
      rw [e2] at e
      exact e
    have hs' : (ps.map g).Pairwise (fun x y => x.1 ≤ y.1) := by
      rw [List.pairwise_map]
      exact hsrt.imp fun {a b} h => by simpa using h
    have ho' : out.toList = (ps.map g).map fun y => Value.ref y.2 := by
      rw [ho]
      conv => lhs; rw [eps]
      rw [List.map_map]
      rfl
    have lenP : (ps.map g).length ≤ sizeLine := by
      rw [hp'.length_eq, List.length_zip, hlen, Nat.min_self]
      rw [List.length_map] at hz
      exact hz
    refine ⟨.ref D, upd H D (.lst ((ps.map g).map fun y => V.ref y.2)), ?_, rfl, k _ D hp' hs' hDn⟩
    refine I.step (g' := s.gens) (d' := s.drawn) (ch := []) (fun _ z => nomatch z) (fun b o nb _ _ e n => keep b o nb e) (fun b o nb _ _ e n => ⟨o.slots, keep b o nb e⟩) (fun b o _ e n => ?_) (fun b o _ e => ?_) (fun b xs e => by rw [upd_ne (ne_of_none e hDn)]; exact e) (fun b o u e => by rw [upd_ne (ne_of_none e hDn)]; exact e)
      (fun b qs e => ⟨#[], by rw [upd_ne (ne_of_none e hDn)]; simpa using e⟩) (fun m2 hm2 => ?_) (fun b u e => ?_) I.bare
    · rw [upd_ne (fun z => by rw [z, noD] at e; cases e)]
      exact n
    · by_cases nb : b = X.env.locals
      · obtain ⟨o', _, _, e', _⟩ := F'.ns
        rw [nb]
        exact ⟨o', e'⟩
      · exact ⟨o, keep b o nb e⟩
    · obtain ⟨o1, es1, ep1, q1, d1, b1, f1⟩ := hm2
      obtain ⟨o2, es2, ep2, q2, d2, b2, f2⟩ := F.ns
      rw [q1] at q2
      cases q2
      rw [d1] at d2
      cases d2
      have em : m2 = m := funext fun x => (f1 x).symm.trans (f2 x)
      rw [em]
      exact F'.ns
    · by_cases hb : b = D
      · subst hb
        rw [upd_same] at e
        cases e
        refine ⟨by rw [List.length_map]; exact lenP, out.toList, c, ?_, by rw [Array.toArray_toList]; exact hD⟩
        rw [ho']
        have vr : ∀ l : List (Int × Addr), Vals (l.map fun y => V.ref y.2) (l.map fun y => Value.ref y.2) := fun l => by
          induction l with
          | nil => exact .nil
          | cons y l ih => exact .cons rfl ih
        exact vr _
      · rw [upd_ne hb] at e
        refine (I.hok b u e).stay (fun d v hd q => ?_) (fun d q => by rw [upd_ne (ne_of_none q hDn)]; exact q) fun d xs q => by rw [upd_ne (ne_of_none q hDn)]; exact q
        rcases hd with z | z
        · exact keep d v (by rw [z]; exact neL _ _ e) q
        · exact keep d v (neL _ _ z) q
end
end R58


set_option Elab.async false
set_option linter.all false
set_option maxRecDepth 100000
set_option maxHeartbeats 2000000
/-! a Hook that looks at chosen names alone -/
namespace Y58
open PySem PySem.Spec PyProof.Rows L2 He
def gaG (g : Addr → Option Obj) (x : Str) : Addr := ga (frG g [mainGlobals]) x
def refs1 (g : Addr → Option Obj) (l : List Addr) : List Addr := l.flatMap fun a => match g a with
  | some o => refsD o
  | none => []
def asL (fns cls : List Str) (g : Addr → Option Obj) : List Addr :=
  mainGlobals :: (cls.map (gaG g) ++ refs1 g (cls.map (gaG g)) ++ fns.map (gaG g) ++ refs1 g (refs1 g (cls.map (gaG g))) ++ refs1 g (fns.map (gaG g)) ++ refs1 g (refs1 g (refs1 g (cls.map (gaG g)))))
structure SaysY (fa : List Fa) (fn : List DefD) (tf : List Defn) (ex : PySem.W.Frag → Bool) (h : Heap) (K : PySem.W.Frag) : Prop where
  d : SaysD fa fn K
  more : ex K = true
  hd : ∀ p ∈ tf, PySem.W.codeHdIn K (cT K p).1 (cT K p).2 = true
  out : ∀ p ∈ tf, K.lookup (cT K p).2 = none
  empty : ∀ p ∈ tf, h.get? (cT K p).2 = some { cls := .none, data := .fields #[] }
abbrev AlY : Type := AlD × Bool
def obsK (fa : List Fa) (fn : List DefD) (tf : List Defn) (ex : PySem.W.Frag → Bool) (g : Addr → Option Obj) (K : PySem.W.Frag) : AlY := (obsD fa fn K, ex K && tabsB g tf K)
def obsY (as : (Addr → Option Obj) → List Addr) (fa : List Fa) (fn : List DefD) (tf : List Defn) (ex : PySem.W.Frag → Bool) (g : Addr → Option Obj) : AlY := obsK fa fn tf ex g (frT g (as g))
def valY (fn : List DefD) : AlY := (valD fn, true)
theorem saysY_of {as : List Addr} {fa : List Fa} {fn : List DefD} {tf : List Defn} {ex : PySem.W.Frag → Bool} {h : Heap} (e : obsK fa fn tf ex h.get? (frT h.get? as) = valY fn) : SaysY fa fn tf ex h (frT h.get? as) := by
  have e1 : obsD fa fn (frT h.get? as) = valD fn := congrArg (fun z : AlY => z.1) e
  have e2 : (ex (frT h.get? as) && tabsB h.get? tf (frT h.get? as)) = true := congrArg (fun z : AlY => z.2) e
  obtain ⟨h1, h2⟩ := ba e2
  have key : ∀ p ∈ tf, PySem.W.codeHdIn (frT h.get? as) (cT (frT h.get? as) p).1 (cT (frT h.get? as) p).2 = true ∧ ∃ o, h.get? (cT (frT h.get? as) p).2 = some o ∧ emptyTab o = true := fun p hp => by
    obtain ⟨h3, h4⟩ := ba (List.all_eq_true.mp h2 p hp)
    refine ⟨h3, ?_⟩
    cases q : h.get? (cT (frT h.get? as) p).2 with
    | none =>
      rw [q] at h4
      cases h4
    | some o =>
      rw [q] at h4
      exact ⟨o, rfl, h4⟩
  refine ⟨e1, h1, fun p hp => (key p hp).1, fun p hp => ?_, fun p hp => ?_⟩
  · obtain ⟨_, o, q, z⟩ := key p hp
    exact frT_none q z
  · obtain ⟨_, o, q, z⟩ := key p hp
    rw [q, emptyTab_eq z]
def hookY (as : (Addr → Option Obj) → List Addr) (fa : List Fa) (fn : List DefD) (tf : List Defn) (ex : PySem.W.Frag → Bool) : PySem.W.Hook where
  α := AlY
  obs := fun s => obsY as fa fn tf ex s.heap.get?
  val := fun _ => valY fn
  says := fun _ h => ∃ K : PySem.W.Frag, K.In h ∧ SaysY fa fn tf ex h K
  of := fun _ _ e => ⟨_, frT_in, saysY_of e⟩
  keeps := fun _ _ _ ⟨K, hK, c⟩ k => ⟨K, PySem.W.Frag.In.keeps hK k, ⟨c.d, c.more, c.hd, c.out, fun p hp => k _ _ (c.empty p hp)⟩⟩
theorem obsY_eq {as : (Addr → Option Obj) → List Addr} {fa : List Fa} {fn : List DefD} {tf : List Defn} {ex : PySem.W.Frag → Bool} {g : Addr → Option Obj} {s : Shared} (h : ∀ a, g a = s.heap.get? a) : obsY as fa fn tf ex g = (hookY as fa fn tf ex).obs s := by
  have e : g = s.heap.get? := funext h
  rw [e] <;> rfl
end Y58


set_option Elab.async false
set_option linter.all false
set_option maxRecDepth 100000
set_option maxHeartbeats 0
namespace K58
open PySem PySem.Spec PyProof.Rows L2
/-! ### the text by places -/
abbrev Pg : Program := PySem.Challenge.pw_signferry_k58_whole_charmaps_both_ways
def topS (i : Nat) : Stmt := Pg.main.body.getD i (.Pass ⟨0, 0, 0, 0⟩)
abbrev s_is_integer : Stmt := topS 8
def d_is_integer : He.DefD := ⟨("is_integer", none), "is_integer", "is_integer", defArgs s_is_integer, defBody s_is_integer, defScope s_is_integer, [], []⟩
abbrev s_is_row : Stmt := topS 9
def d_is_row : He.DefD := ⟨("is_row", none), "is_row", "is_row", defArgs s_is_row, defBody s_is_row, defScope s_is_row, [], []⟩
abbrev s_are_codes : Stmt := topS 10
def d_are_codes : He.DefD := ⟨("are_codes", none), "are_codes", "are_codes", defArgs s_are_codes, defBody s_are_codes, defScope s_are_codes, [], []⟩
abbrev s_is_code : Stmt := topS 33
def d_is_code : He.DefD := ⟨("is_code", none), "is_code", "is_code", defArgs s_is_code, defBody s_is_code, defScope s_is_code, [], []⟩
abbrev s_is_octet : Stmt := topS 34
def d_is_octet : He.DefD := ⟨("is_octet", none), "is_octet", "is_octet", defArgs s_is_octet, defBody s_is_octet, defScope s_is_octet, [], []⟩
abbrev s_entries_of : Stmt := topS 35
def d_entries_of : He.DefD := ⟨("entries_of", none), "entries_of", "entries_of", defArgs s_entries_of, defBody s_entries_of, defScope s_entries_of, [], []⟩
abbrev s_way_back : Stmt := topS 36
def d_way_back : He.DefD := ⟨("way_back", none), "way_back", "way_back", defArgs s_way_back, defBody s_way_back, defScope s_way_back, [], []⟩
abbrev s_checked_table : Stmt := topS 37
def d_checked_table : He.DefD := ⟨("checked_table", none), "checked_table", "checked_table", defArgs s_checked_table, defBody s_checked_table, defScope s_checked_table, [], []⟩
abbrev s_checked_back : Stmt := topS 38
def d_checked_back : He.DefD := ⟨("checked_back", none), "checked_back", "checked_back", defArgs s_checked_back, defBody s_checked_back, defScope s_checked_back, [], []⟩
abbrev s_write_charmap : Stmt := topS 39
def d_write_charmap : He.DefD := ⟨("write_charmap", none), "write_charmap", "write_charmap", defArgs s_write_charmap, defBody s_write_charmap, defScope s_write_charmap, [], []⟩
abbrev s_read_charmap : Stmt := topS 40
def d_read_charmap : He.DefD := ⟨("read_charmap", none), "read_charmap", "read_charmap", defArgs s_read_charmap, defBody s_read_charmap, defScope s_read_charmap, [], []⟩
abbrev s_law_source : Stmt := topS 159
def d_law_source : He.DefD := ⟨("_law_source", none), "_law_source", "_law_source", defArgs s_law_source, defBody s_law_source, defScope s_law_source, [], []⟩
abbrev s_law_draw : Stmt := topS 160
def d_law_draw : He.DefD := ⟨("_law_draw", none), "_law_draw", "_law_draw", defArgs s_law_draw, defBody s_law_draw, defScope s_law_draw, [], []⟩
abbrev s_law_pick : Stmt := topS 161
def d_law_pick : He.DefD := ⟨("_law_pick", none), "_law_pick", "_law_pick", defArgs s_law_pick, defBody s_law_pick, defScope s_law_pick, [], []⟩
abbrev s_law_shuffled : Stmt := topS 162
def d_law_shuffled : He.DefD := ⟨("_law_shuffled", none), "_law_shuffled", "_law_shuffled", defArgs s_law_shuffled, defBody s_law_shuffled, defScope s_law_shuffled, [], []⟩
abbrev s_law_handed : Stmt := topS 163
def d_law_handed : He.DefD := ⟨("_law_handed", none), "_law_handed", "_law_handed", defArgs s_law_handed, defBody s_law_handed, defScope s_law_handed, [], []⟩
abbrev s_law_entry : Stmt := topS 164
def d_law_entry : He.DefD := ⟨("_law_entry", none), "_law_entry", "_law_entry", defArgs s_law_entry, defBody s_law_entry, defScope s_law_entry, [], []⟩
abbrev s_law_charmap_table : Stmt := topS 165
def d_law_charmap_table : He.DefD := ⟨("_law_charmap_table", none), "_law_charmap_table", "_law_charmap_table", defArgs s_law_charmap_table, defBody s_law_charmap_table, defScope s_law_charmap_table, [], []⟩
abbrev s_law_entries : Stmt := topS 166
def d_law_entries : He.DefD := ⟨("_law_entries", none), "_law_entries", "_law_entries", defArgs s_law_entries, defBody s_law_entries, defScope s_law_entries, [], []⟩
abbrev s_law_some : Stmt := topS 167
def d_law_some : He.DefD := ⟨("_law_some", none), "_law_some", "_law_some", defArgs s_law_some, defBody s_law_some, defScope s_law_some, [], []⟩
abbrev s_law : Stmt := topS 168
def d_law : He.DefD := ⟨("law", none), "law", "law", defArgs s_law, defBody s_law, defScope s_law, [], []⟩
abbrev s_answers_init : Stmt := inClass (topS 79) 0
def d_answers_init : He.DefD := ⟨("Answers", some "__init__"), "__init__", "Answers.__init__", defArgs s_answers_init, defBody s_answers_init, defScope s_answers_init, [], []⟩
abbrev s_codec_init : Stmt := inClass (topS 151) 0
def d_codec_init : He.DefD := ⟨("Codec", some "__init__"), "__init__", "Codec.__init__", defArgs s_codec_init, defBody s_codec_init, defScope s_codec_init, [.non, .non], []⟩
abbrev s_codec_encoded : Stmt := inClass (topS 151) 2
def d_codec_encoded : He.DefD := ⟨("Codec", some "encoded"), "encoded", "Codec.encoded", defArgs s_codec_encoded, defBody s_codec_encoded, defScope s_codec_encoded, [.str "strict"], []⟩
abbrev s_codec_decoded : Stmt := inClass (topS 151) 3
def d_codec_decoded : He.DefD := ⟨("Codec", some "decoded"), "decoded", "Codec.decoded", defArgs s_codec_decoded, defBody s_codec_decoded, defScope s_codec_decoded, [.str "strict", .bl true], []⟩
abbrev s_registry_init : Stmt := inClass (topS 157) 0
def d_registry_init : He.DefD := ⟨("Registry", some "__init__"), "__init__", "Registry.__init__", defArgs s_registry_init, defBody s_registry_init, defScope s_registry_init, [], []⟩
abbrev s_registry_charmap : Stmt := inClass (topS 157) 7
def d_registry_charmap : He.DefD := ⟨("Registry", some "charmap"), "charmap", "Registry.charmap", defArgs s_registry_charmap, defBody s_registry_charmap, defScope s_registry_charmap, [.non], []⟩
def fnNames : List Str := [Str.ofString "is_integer", Str.ofString "is_row", Str.ofString "are_codes", Str.ofString "is_code", Str.ofString "is_octet", Str.ofString "entries_of", Str.ofString "way_back", Str.ofString "checked_table", Str.ofString "checked_back", Str.ofString "write_charmap", Str.ofString "read_charmap", Str.ofString "_law_source", Str.ofString "_law_draw", Str.ofString "_law_pick", Str.ofString "_law_shuffled", Str.ofString "_law_handed", Str.ofString "_law_entry", Str.ofString "_law_charmap_table", Str.ofString "_law_entries", Str.ofString "_law_some", Str.ofString "law"]
def fn : List He.DefD := [d_is_integer, d_is_row, d_are_codes, d_is_code, d_is_octet, d_entries_of, d_way_back, d_checked_table, d_checked_back, d_write_charmap, d_read_charmap, d_law_source, d_law_draw, d_law_pick, d_law_shuffled, d_law_handed, d_law_entry, d_law_charmap_table, d_law_entries, d_law_some, d_law, d_answers_init, d_codec_init, d_codec_encoded, d_codec_decoded, d_registry_init, d_registry_charmap]
def fa : List He.Fa := [.glo "is_integer", .glo "is_row", .glo "are_codes", .glo "is_code", .glo "is_octet", .glo "entries_of", .glo "way_back", .glo "checked_table", .glo "checked_back", .glo "write_charmap", .glo "read_charmap", .glo "_law_source", .glo "_law_draw", .glo "_law_pick", .glo "_law_shuffled", .glo "_law_handed", .glo "_law_entry", .glo "_law_charmap_table", .glo "_law_entries", .glo "_law_some", .glo "law", .free "isinstance", .free "int", .free "bool", .free "tuple", .free "list", .free "dict", .free "enumerate", .free "sorted", .free "all", .free "len", .free "range", .int "GREATEST" 1114111, .glo "Answers", .cls "Answers", .mkr "Answers", .keep "Answers", .noat "Answers" "registry", .noat "Answers" "errors", .noat "Answers" "handler", .glo "Codec", .cls "Codec", .mkr "Codec", .keep "Codec", .noat "Codec" "registry", .noat "Codec" "name", .noat "Codec" "kind", .noat "Codec" "table", .noat "Codec" "back", .glo "Registry", .cls "Registry", .mkr "Registry", .keep "Registry", .noat "Registry" "searchers", .noat "Registry" "found_codecs", .noat "Registry" "own_handlers", .meth "Codec" "encoded", .meth "Codec" "decoded", .meth "Registry" "charmap"]
def ex (K : PySem.W.Frag) : Bool := R58.cmpB K (He.ga K "Codec") && decide ((He.cT K ("entries_of", none)).2 ≠ (He.cT K ("_law_entries", none)).2)
def tf : List He.Defn := [("entries_of", none), ("_law_entries", none)]
abbrev R : PySem.W.OpenRow := PySem.W.OpenLaw.row PySem.Challenge.rw_signferry_k58_whole_charmaps_both_ways
abbrev asY : (Addr → Option Obj) → List Addr := Y58.asL fnNames ["Answers", "Codec", "Registry"]
abbrev hk : PySem.W.Hook := Y58.hookY asY fa fn tf ex
def ob (s : PySem.W.SharedT) : Y58.AlY := Y58.obsY asY fa fn tf ex (HandSHeadRun.getT s)
theorem ob_eq (s : PySem.W.SharedT) : ob s = hk.obs s.abs := Y58.obsY_eq (HandSHeadRun.getT_eq s)
def names0 : List PySem.Str := [Str.ofString "_wall", Str.ofString "HIGH", Str.ofString "LOW", Str.ofString "BEHIND", Str.ofString "GREATEST", Str.ofString "SIGNS_codes", Str.ofString "text", Str.ofString "is_integer", Str.ofString "is_row", Str.ofString "are_codes", Str.ofString "are_octets", Str.ofString "is_surrogate", Str.ofString "digits_of", Str.ofString "SignError", Str.ofString "NoCodec", Str.ofString "NoHandler", Str.ofString "BadCodec", Str.ofString "EncodeError", Str.ofString "DecodeError", Str.ofString "BadAnswer", Str.ofString "BadPlace", Str.ofString "BadTable", Str.ofString "UNDEFINED", Str.ofString "FIRST", Str.ofString "MIDDLE", Str.ofString "LATE", Str.ofString "CP1252", Str.ofString "LATIN9", Str.ofString "KOI8", Str.ofString "TABLES", Str.ofString "is_code", Str.ofString "is_octet", Str.ofString "entries_of", Str.ofString "way_back", Str.ofString "checked_table"]
def names1 : List PySem.Str := [Str.ofString "checked_back", Str.ofString "write_charmap", Str.ofString "read_charmap", Str.ofString "SHORT", Str.ofString "MEANT", Str.ofString "SIZES_escapes", Str.ofString "MALFORMED", Str.ofString "UNKNOWN", Str.ofString "ILLEGAL", Str.ofString "BEYOND", Str.ofString "far_escape", Str.ofString "near_escape", Str.ofString "write_escape", Str.ofString "write_raw_escape", Str.ofString "digit_value", Str.ofString "digit_value_escapes", Str.ofString "digits_at", Str.ofString "octal_at", Str.ofString "name_at", Str.ofString "near_at", Str.ofString "raw_at", Str.ofString "read_by", Str.ofString "read_escape", Str.ofString "read_raw_escape", Str.ofString "SIZES_handlers", Str.ofString "raise_again", Str.ofString "range_of", Str.ofString "answer_strict", Str.ofString "answer_ignore", Str.ofString "answer_replace", Str.ofString "answer_xmlcharrefreplace", Str.ofString "escape_of", Str.ofString "answer_backslashreplace", Str.ofString "answer_surrogateescape", Str.ofString "surrogate_bytes"]
def names2 : List PySem.Str := [Str.ofString "surrogate_at", Str.ofString "answer_surrogatepass", Str.ofString "KNOWN", Str.ofString "checked_answer", Str.ofString "Answers", Str.ofString "least_of", Str.ofString "next_bias", Str.ofString "digit_of", Str.ofString "digit_value_punycode", Str.ofString "number_written", Str.ofString "write_punycode", Str.ofString "number_at", Str.ofString "ascii_read", Str.ofString "read_punycode", Str.ofString "FIRST_ESCAPE", Str.ofString "LAST_ESCAPE", Str.ofString "ASCII", Str.ofString "LATIN", Str.ofString "own_escapes_end", Str.ofString "written_run", Str.ofString "write_runs", Str.ofString "read_steps", Str.ofString "ascii_step", Str.ofString "write_ascii", Str.ofString "write_latin", Str.ofString "read_ascii", Str.ofString "read_latin", Str.ofString "SIGNATURE", Str.ofString "TOLD", Str.ofString "BOUNDS", Str.ofString "utf8_octets", Str.ofString "write_utf8", Str.ofString "write_signed", Str.ofString "size_behind", Str.ofString "right_end"]
def names3 : List PySem.Str := [Str.ofString "joined_code", Str.ofString "is_cut_surrogate", Str.ofString "utf8_step", Str.ofString "read_utf8", Str.ofString "is_cut_signature", Str.ofString "read_signed", Str.ofString "MARKS", Str.ofString "ORDERS", Str.ofString "size_of", Str.ofString "is_big", Str.ofString "unit_octets", Str.ofString "wide_octets", Str.ofString "all_octets", Str.ofString "answered", Str.ofString "answered_wide", Str.ofString "write_wide", Str.ofString "unit_at", Str.ofString "step_16", Str.ofString "step_32", Str.ofString "ordered", Str.ofString "read_wide", Str.ofString "base_sign", Str.ofString "base_value", Str.ofString "is_plain", Str.ofString "units_of", Str.ofString "last_sign", Str.ofString "write_utf7", Str.ofString "shift_read", Str.ofString "wrong_at_end", Str.ofString "answered_utf7", Str.ofString "read_utf7", Str.ofString "WRITERS", Str.ofString "READERS", Str.ofString "Codec", Str.ofString "SIGNS_registry"]
def names4 : List PySem.Str := [Str.ofString "CODECS", Str.ofString "normal_name", Str.ofString "known_name", Str.ofString "Registry", Str.ofString "_law_source", Str.ofString "_law_draw", Str.ofString "_law_pick", Str.ofString "_law_shuffled", Str.ofString "_law_handed", Str.ofString "_law_entry", Str.ofString "_law_charmap_table", Str.ofString "_law_entries", Str.ofString "_law_some"]
def names : List PySem.Str := names0 ++ names1 ++ names2 ++ names3 ++ names4
end K58


set_option Elab.async false
set_option linter.all false
set_option maxRecDepth 100000
set_option maxHeartbeats 0
namespace K58
open PySem PySem.Spec PyProof.Rows L2
theorem comb {S A B C : Type} {x : Option S} {l : S → A} {m : S → B} {o : S → C} {a : A} {b : B} {c : C} (h1 : x.map (fun s => (l s, m s)) = some (a, b)) (h2 : x.map o = some c) : x.map (fun s => (l s, m s, o s)) = some (a, b, c) := by
  cases x with
  | none => cases h1
  | some s =>
    have e1 : (l s, m s) = (a, b) := Option.some.inj h1
    have e2 : o s = c := Option.some.inj h2
    injection e1 with e3 e4
    show some (l s, m s, o s) = some (a, b, c)
    rw [e3, e4, e2]
theorem lk_f (w : World) (os : OsState) : (HandSHeadRun.endF (HandSHeadRun.stepQ (HandSHeadRun.denQ HandSHeadRun.tabQ) R.prog (w.withFollow "special-get-raises" false)) 20000 R.prog (w.withFollow "special-get-raises" false) os).map (fun s => (HandSHeadRun.looksF R.prog (PySem.W.boot_heap (w.withFollow "special-get-raises" false).params) s.abs, HandSHeadRun.seenQ (PySem.W.view R.prog [168]) names (PySem.importedModules R.prog.main.body) (fun s => PySem.W.xlAt (PySem.W.view R.prog [168]) [] s && PySem.W.recOk R.toRowW.records s) s.abs)) = some (true, PySem.W.openGood (PySem.W.view R.prog [168]) names) := by
  kernel_rfl
theorem ob_f (w : World) (os : OsState) : (HandSHeadRun.endF (HandSHeadRun.stepQ (HandSHeadRun.denQ HandSHeadRun.tabQ) R.prog (w.withFollow "special-get-raises" false)) 20000 R.prog (w.withFollow "special-get-raises" false) os).map (fun s => ob s) = some (hk.val (w.withFollow "special-get-raises" false)) := by
  kernel_rfl
theorem run_f (w : World) : HandSHeadRun.RunEq R (PySem.W.view R.prog [168]) hk ob 20000 names (w.withFollow "special-get-raises" false) := fun os => comb (lk_f w os) (ob_f w os)
theorem lk_t (w : World) (os : OsState) : (HandSHeadRun.endF (HandSHeadRun.stepQ (HandSHeadRun.denQ HandSHeadRun.tabQ) R.prog (w.withFollow "special-get-raises" true)) 20000 R.prog (w.withFollow "special-get-raises" true) os).map (fun s => (HandSHeadRun.looksF R.prog (PySem.W.boot_heap (w.withFollow "special-get-raises" true).params) s.abs, HandSHeadRun.seenQ (PySem.W.view R.prog [168]) names (PySem.importedModules R.prog.main.body) (fun s => PySem.W.xlAt (PySem.W.view R.prog [168]) [] s && PySem.W.recOk R.toRowW.records s) s.abs)) = some (true, PySem.W.openGood (PySem.W.view R.prog [168]) names) := by
  kernel_rfl
theorem ob_t (w : World) (os : OsState) : (HandSHeadRun.endF (HandSHeadRun.stepQ (HandSHeadRun.denQ HandSHeadRun.tabQ) R.prog (w.withFollow "special-get-raises" true)) 20000 R.prog (w.withFollow "special-get-raises" true) os).map (fun s => ob s) = some (hk.val (w.withFollow "special-get-raises" true)) := by
  kernel_rfl
theorem run_t (w : World) : HandSHeadRun.RunEq R (PySem.W.view R.prog [168]) hk ob 20000 names (w.withFollow "special-get-raises" true) := fun os => comb (lk_t w os) (ob_t w os)
theorem run (w : World) : HandSHeadRun.RunEq R (PySem.W.view R.prog [168]) hk ob 20000 names w :=
  PySem.W.byRow2 "special-get-raises" (P := fun w => HandSHeadRun.RunEq R (PySem.W.view R.prog [168]) hk ob 20000 names w) run_f run_t w
end K58


set_option Elab.async false
set_option linter.all false
set_option maxRecDepth 100000
set_option maxHeartbeats 4000000
namespace K58
open PySem PySem.Spec PyProof.Rows L2
/-! ### what may be called -/
abbrev FD (K : PySem.W.Frag) (d : He.DefD) (f : Addr) (fd : FuncData) : Prop := FunD K d.name d.qual d.params d.body d.scope (d.dvs K) (d.kws K) f fd
/-- a def that may be called by its name -/
structure Cal (P : Program) (w : World) (K : PySem.W.Frag) (mg : Str → Option Value) (base : Heap) (x : Str) (k : Nat) (ps : List Str) (dvs : List V) (sp : Sp) : Prop where
  ex : ∃ (f : Addr) (fd : FuncData) (ds : List Value), FnOk P w K mg base CX0 k f fd ps sp ∧ mg x = some (.ref f) ∧ PySem.W.keepIn K (.ref f) = true ∧ Binds K fd ps ds ∧ Vals dvs ds
theorem Cal.mono {P : Program} {w : World} {K : PySem.W.Frag} {mg : Str → Option Value} {base : Heap} {x : Str} {j k : Nat} {ps : List Str} {dvs : List V} {sp : Sp} (C : Cal P w K mg base x j ps dvs sp) (h : j ≤ k) : Cal P w K mg base x k ps dvs sp := by
  obtain ⟨f, fd, ds, F, a, b, c, d⟩ := C.ex
  exact ⟨f, fd, ds, F.mono h, a, b, c, d⟩
section
variable {X : Cx} {k : Nat} {ps : List Str} {sp : Sp} {dvs : List V} {x : Str} {p pos : Pos} {e : Expr} {es : List Expr} {t : TA}
theorem pe_c (C : Cal X.prog X.w X.K X.mg X.base x k ps dvs sp) (hr : Room k X.A) (ha : PA X (e :: es) t) (hg : Gl X x := by rfl)
    (hdb : (x == ("__debug__" : Str)) = false := by decide) (he : starEach (e :: es) X.env = (false, eval e X.env) :: starEach es X.env := by rfl) (hpl : (backTo pos (starEach es X.env)).any (·.1) = false := by rfl) :
    PE X (.Call (.Name x p) (e :: es) [] pos) (tCall sp dvs E0 t) := by
  obtain ⟨f, fd, ds, F, hm, kp, hb, hd⟩ := C.ex
  exact pe_call F hr hg hm kp hb hd pass0 ha hdb he hpl
end
/-- a class that may be called -/
structure CalC (P : Program) (w : World) (K : PySem.W.Frag) (mg : Str → Option Value) (base : Heap) (x : Str) (C : Addr) (k : Nat) (ps : List Str) (dvs : List V) (sp : Sp) : Prop where
  ex : ∃ (f : Addr) (fd : FuncData) (ds : List Value), FnOk P w K mg base CX0 k f fd ps sp ∧ Mk K C f ∧ Binds K fd ps ds ∧ Vals dvs ds
  gl : mg x = some (.ref C)
section
variable {X : Cx} {k : Nat} {C : Addr} {ps : List Str} {sp : Sp} {dvs : List V} {x m : Str} {p pos apos : Pos} {e o : Expr} {es : List Expr} {ta : TE} {t : TA}
theorem pe_mk (M : CalC X.prog X.w X.K X.mg X.base x C k ps dvs sp) (hr : Room (k + 1) X.A) (ha : PA X (e :: es) t) (hg : Gl X x := by rfl)
    (hdb : (x == ("__debug__" : Str)) = false := by decide) (he : starEach (e :: es) X.env = (false, eval e X.env) :: starEach es X.env := by rfl) (hpl : (backTo pos (starEach es X.env)).any (·.1) = false := by rfl) :
    PE X (.Call (.Name x p) (e :: es) [] pos) (tMake C sp dvs E0 t) := by
  obtain ⟨f, fd, ds, F, hm, hb, hd⟩ := M.ex
  exact pe_make hm F hr hg M.gl hb hd pass0 ha hdb he hpl
theorem pe_mk0 (M : CalC X.prog X.w X.K X.mg X.base x C k ps dvs sp) (hr : Room (k + 1) X.A) (hg : Gl X x := by rfl)
    (hdb : (x == ("__debug__" : Str)) = false := by decide) :
    PE X (.Call (.Name x p) [] [] pos) (tMake C sp dvs E0 tNil) := by
  obtain ⟨f, fd, ds, F, hm, hb, hd⟩ := M.ex
  exact pe_make0 hm F hr hg M.gl hb hd pass0 hdb
end
/-- a method that may be called -/
structure CalM (P : Program) (w : World) (K : PySem.W.Frag) (mg : Str → Option Value) (base : Heap) (C : Addr) (m : Str) (k : Nat) (ps : List Str) (dvs : List V) (sp : Sp) : Prop where
  ex : ∃ (f : Addr) (fd : FuncData) (ds : List Value), FnOk P w K mg base CX0 k f fd ps sp ∧ Meth K C m f ∧ Binds K fd ps ds ∧ Vals dvs ds
  cl : Cls K C
section
variable {X : Cx} {k : Nat} {C : Addr} {ps : List Str} {sp : Sp} {dvs : List V} {x m : Str} {p pos apos : Pos} {e o : Expr} {es : List Expr} {ta : TE} {t : TA}
theorem pe_m {pl : Sem Bool} (M : CalM X.prog X.w X.K X.mg X.base C m k ps dvs sp) (hr : Room k X.A) (he : PE X o ta) (ha : PA X (e :: es) t)
    (hst : starEach (e :: es) X.env = (false, eval e X.env) :: starEach es X.env := by rfl) (hpl : (backTo pos (starEach es X.env)).any (·.1) = false := by rfl)
    (ht : eval (.Call (.Attribute o m apos) (e :: es) [] pos) X.env = (do
      let ov ← eval o X.env
      standAt apos.atName
      let (f, first) ← holding [ov] (getMethod ov m pl)
      callWith pos f first (backTo pos (starEach (e :: es) X.env)) (backToKw pos (keywordEach [] X.env))) := by rfl) :
    PE X (.Call (.Attribute o m apos) (e :: es) [] pos) (tMeth C m sp dvs E0 ta t) := by
  obtain ⟨f, fd, ds, F, hm, hb, hd⟩ := M.ex
  exact pe_meth he M.cl hm F hr hb hd pass0 ha hst hpl ht
end
/-- THE RULE for a def -/
theorem ok0 {P : Program} {w : World} {K : PySem.W.Frag} {mg : Str → Option Value} {base : Heap} {x qual : Str} {params : Arguments} {body : List Stmt} {scope : Scope} {dvs : List V} {kws : List (Str × V)} {f : Addr} {fd : FuncData} {N ps : List Str} {k : Nat} {sp : Sp}
    (F : FunD K x qual params body scope dvs kws f fd) (S : FnScope N ps scope) (len : ∀ vs H Q E, sp vs H Q E → vs.length = ps.length)
    (hbody : ∀ (cdv : Value) (A : Around) (outer : List Env) (s : Shared) (H : Hp) (vs : List V) (Q : VK) (E : XK), fd.code = cdv → Room k (A.deeper (envOfC qual scope s.heap.objs.size f cdv)) → sp vs H Q E →
      ∃ t, PSs (cxOf CX0 P w K mg base N qual scope f cdv A outer s H E).nox body t ∧ t { nx := fun _ H' => Q .non H', rt := Q } (start N vs) H) : FnOk P w K mg base CX0 (k + 1) f fd ps sp := by
  obtain ⟨oc, od, dV, kV, doc, pm, an, cdv, ct, osl, rfl, lk, hcd, _, _⟩ := F.ex
  refine fn_of lk hcd S len fun A outer s H vs Q E hr hsp => ?_
  obtain ⟨t, h, q⟩ := hbody cdv A outer s H vs Q E rfl hr hsp
  exact ⟨t, h.nox, q⟩
theorem cal0 {P : Program} {w : World} {K : PySem.W.Frag} {mg : Str → Option Value} {base : Heap} {x qual : Str} {params : Arguments} {body : List Stmt} {scope : Scope} {f : Addr} {fd : FuncData} {ps : List Str} {k : Nat} {sp : Sp}
    (F : FunD K x qual params body scope [] [] f fd) (g : mg x = some (.ref f)) (h : FnOk P w K mg base CX0 k f fd ps sp)
    (hb : ∀ (kV doc pm : Value) (an : Option Addr) (cdv ct : Value) (us : List Value), us.length = ps.length → bindArgs (PySem.W.fnOf x qual params body scope .none kV doc pm an cdv ct) ⟨us, []⟩ = pure (ps.zip us)) : Cal P w K mg base x k ps [] sp :=
  ⟨f, fd, [], h, g, F.kp, F.bindsN hb, .nil⟩
/-! ### facts of the module -/
structure Mo (mg : Str → Option Value) : Prop where
  isi : mg "isinstance" = none
  int : mg "int" = none
  bool : mg "bool" = none
  tuple : mg "tuple" = none
  list : mg "list" = none
  dict : mg "dict" = none
  enum : mg "enumerate" = none
  sorted : mg "sorted" = none
  all : mg "all" = none
  len : mg "len" = none
  range : mg "range" = none
  gr : ∃ t, mg "GREATEST" = some (.int 1114111 t)
theorem b_isi : bootBuiltins "isinstance" = some (.builtin "isinstance") := by decide +kernel
theorem b_int : bootBuiltins "int" = some (.type "int") := by decide +kernel
theorem b_bool : bootBuiltins "bool" = some (.type "bool") := by decide +kernel
theorem b_tuple : bootBuiltins "tuple" = some (.type "tuple") := by decide +kernel
theorem b_list : bootBuiltins "list" = some (.type "list") := by decide +kernel
theorem b_dict : bootBuiltins "dict" = some (.type "dict") := by decide +kernel
theorem b_all : bootBuiltins "all" = some (.builtin "all") := by decide +kernel
theorem b_len : bootBuiltins "len" = some (.builtin "len") := by decide +kernel
theorem b_sorted : bootBuiltins "sorted" = some (.builtin "sorted") := by decide +kernel
end K58


set_option Elab.async false
set_option linter.all false
set_option maxRecDepth 100000
set_option maxHeartbeats 4000000
namespace K58
open PySem PySem.Spec PyProof.Rows L2
variable {P : Program} {w : World} {K : PySem.W.Frag} {mg : Str → Option Value} {base : Heap} {f : Addr} {fd : FuncData}
theorem sc_is_integer : FnScope ["thing"] ["thing"] (defScope s_is_integer) := ⟨rfl, rfl, rfl, by decide +kernel, rfl, by decide +kernel, by decide +kernel⟩
/-- is_integer: an int; None, a list, a tuple -/
def spIsInt : Sp := fun vs H Q _ => ∃ v, vs = [v] ∧ ((∃ i, v = .int i ∧ Q (.bl true) H) ∨ (v = .non ∧ Q (.bl false) H) ∨ (∃ a xs, v = .ref a ∧ (H a = some (.lst xs) ∨ H a = some (.tup xs)) ∧ Q (.bl false) H))
theorem ok_is_integer (F : FD K d_is_integer f fd) (g : mg "is_integer" = some (.ref f)) (M : Mo mg) : Cal P w K mg base "is_integer" 1 ["thing"] [] spIsInt := by
  refine cal0 F g (ok0 F sc_is_integer (fun vs H Q E h => ?_) fun cdv A outer s H vs Q E ec hr h => ?_) fun _ _ _ _ _ _ us hl => match us, hl with | [_], _ => rfl
  · obtain ⟨v, rfl, _⟩ := h
    rfl
  · obtain ⟨v, rfl, h⟩ := h
    refine ⟨_, pss_one (ps_ret (pe_and (pe_callB call_isi (by rfl) M.isi b_isi (pa_cons (pv 0) (pa_cons (pe_bltn (v := .ty "int") (by rfl) M.int b_int rfl) pa_nil)))
      (pe_one (pe_not (pe_callB call_isi (by rfl) M.isi b_isi (pa_cons (pv 0) (pa_cons (pe_bltn (v := .ty "bool") (by rfl) M.bool b_bool rfl) pa_nil))))))), ?_⟩
    rcases h with ⟨i, rfl, q⟩ | ⟨rfl, q⟩ | ⟨a, xs, rfl, hx, q⟩
    · refine ⟨_, rfl, _, _, _, _, true, rfl, .ty "int", .base (.int i), kit_ty (by decide +kernel), true, rfl, iteT ?_⟩
      exact ⟨_, rfl, _, _, _, _, false, rfl, .ty "bool", .base (.int i), kit_ty (by decide +kernel), false, rfl, q⟩
    · exact ⟨_, rfl, _, _, _, _, false, rfl, .ty "int", .base .non, kit_ty (by decide +kernel), false, rfl, iteF q⟩
    · rcases hx with hx | hx
      · exact ⟨_, rfl, _, _, _, _, false, rfl, .ty "int", .base (.lst hx), kit_ty (by decide +kernel), false, rfl, iteF q⟩
      · exact ⟨_, rfl, _, _, _, _, false, rfl, .ty "int", .base (.tup hx), kit_ty (by decide +kernel), false, rfl, iteF q⟩
theorem Same.upd {H : Hp} {p : Addr} {o : HO} (h : H p = none) : Same H (upd H p o) := fun b u e => by
  rw [upd_ne (ne_of_none e h)]
  exact e
theorem sc_is_row : FnScope ["thing"] ["thing"] (defScope s_is_row) := ⟨rfl, rfl, rfl, by decide +kernel, rfl, by decide +kernel, by decide +kernel⟩
/-- is_row of a list or a tuple -/
def spIsRow : Sp := fun vs H Q _ => ∃ a xs, vs = [.ref a] ∧ (H a = some (.lst xs) ∨ H a = some (.tup xs)) ∧ ∀ H', Same H H' → Q (.bl true) H'
theorem kit_tl_l : PySem.W.kitAny K (.type "list") [.type "tuple", .type "list"] = some true := kitAny_cons (b := false) (kit_ty (by decide +kernel)) (fun _ => kitAny_cons (b := true) (kit_ty (by decide +kernel)) (fun z => by cases z) (fun _ => rfl)) (fun z => by cases z)
theorem kit_tl_t : PySem.W.kitAny K (.type "tuple") [.type "tuple", .type "list"] = some true := kitAny_cons (b := true) (kit_ty (by decide +kernel)) (fun z => by cases z) (fun _ => rfl)
theorem ok_is_row (F : FD K d_is_row f fd) (g : mg "is_row" = some (.ref f)) (M : Mo mg) : Cal P w K mg base "is_row" 1 ["thing"] [] spIsRow := by
  refine cal0 F g (ok0 F sc_is_row (fun vs H Q E h => ?_) fun cdv A outer s H vs Q E ec hr h => ?_) fun _ _ _ _ _ _ us hl => match us, hl with | [_], _ => rfl
  · obtain ⟨a, xs, rfl, _⟩ := h
    rfl
  · obtain ⟨a, xs, rfl, hx, q⟩ := h
    refine ⟨_, pss_one (ps_ret (pe_callB call_isiT (by rfl) M.isi b_isi (pa_cons (pv 0) (pa_cons (pe_tup (pa_cons (pe_bltn (v := .ty "tuple") (by rfl) M.tuple b_tuple rfl) (pa_cons (pe_bltn (v := .ty "list") (by rfl) M.list b_list rfl) pa_nil))) pa_nil)))), ?_⟩
    refine ⟨_, rfl, by show 2 ≤ sizeLine; decide, fun p np => ?_⟩
    rcases hx with hx | hx
    · exact ⟨_, p, _, _, _, true, rfl, upd_same, .cons (.ty "tuple") (.cons (.ty "list") .nil), .base (.lst (by rw [upd_ne (ne_of_none hx np)]; exact hx)), kit_tl_l, q _ (Same.upd np)⟩
    · exact ⟨_, p, _, _, _, true, rfl, upd_same, .cons (.ty "tuple") (.cons (.ty "list") .nil), .base (.tup (by rw [upd_ne (ne_of_none hx np)]; exact hx)), kit_tl_t, q _ (Same.upd np)⟩
/-- is_code, is_octet: an int within bounds; None; a list or a tuple -/
def spIn (hi : Int) : Sp := fun vs H Q _ => ∃ v, vs = [v] ∧ ((∃ i, v = .int i ∧ 0 ≤ i ∧ i ≤ hi ∧ Q (.bl true) H) ∨ (v = .non ∧ Q (.bl false) H) ∨ (∃ a xs, v = .ref a ∧ (H a = some (.lst xs) ∨ H a = some (.tup xs)) ∧ Q (.bl false) H))
theorem sc_is_code : FnScope ["thing"] ["thing"] (defScope s_is_code) := ⟨rfl, rfl, rfl, by decide +kernel, rfl, by decide +kernel, by decide +kernel⟩
theorem sc_is_octet : FnScope ["thing"] ["thing"] (defScope s_is_octet) := ⟨rfl, rfl, rfl, by decide +kernel, rfl, by decide +kernel, by decide +kernel⟩
theorem ok_is_code (F : FD K d_is_code f fd) (g : mg "is_code" = some (.ref f)) (CI : Cal P w K mg base "is_integer" 1 ["thing"] [] spIsInt) : Cal P w K mg base "is_code" 2 ["thing"] [] (spIn 1114111) := by
  refine cal0 F g (ok0 F sc_is_code (fun vs H Q E h => ?_) fun cdv A outer s H vs Q E ec hr h => ?_) fun _ _ _ _ _ _ us hl => match us, hl with | [_], _ => rfl
  · obtain ⟨v, rfl, _⟩ := h
    rfl
  · obtain ⟨v, rfl, h⟩ := h
    refine ⟨_, pss_one (ps_ret (pe_and (pe_c CI hr (pa_cons (pv 0) pa_nil)) (pe_one (pe_chain op_le op_le pe_int (pv 0) pe_int)))), ?_⟩
    rcases h with ⟨i, rfl, h0, h1, q⟩ | ⟨rfl, q⟩ | ⟨a, xs, rfl, hx, q⟩
    · refine ⟨_, rfl, _, rfl, .inl ⟨i, rfl, true, rfl, iteT ?_⟩⟩
      refine ⟨_, rfl, _, _, rfl, rfl, _, rfl, ?_⟩
      rw [decide_eq_true h0]
      refine iteT ⟨_, _, rfl, rfl, ?_⟩
      dsimp only
      rw [decide_eq_true h1]
      exact q
    · exact ⟨_, rfl, _, rfl, .inr (.inl ⟨rfl, false, rfl, iteF q⟩)⟩
    · exact ⟨_, rfl, _, rfl, .inr (.inr ⟨a, xs, rfl, hx, false, rfl, iteF q⟩)⟩
theorem ok_is_octet (F : FD K d_is_octet f fd) (g : mg "is_octet" = some (.ref f)) (CI : Cal P w K mg base "is_integer" 1 ["thing"] [] spIsInt) : Cal P w K mg base "is_octet" 2 ["thing"] [] (spIn 255) := by
  refine cal0 F g (ok0 F sc_is_octet (fun vs H Q E h => ?_) fun cdv A outer s H vs Q E ec hr h => ?_) fun _ _ _ _ _ _ us hl => match us, hl with | [_], _ => rfl
  · obtain ⟨v, rfl, _⟩ := h
    rfl
  · obtain ⟨v, rfl, h⟩ := h
    refine ⟨_, pss_one (ps_ret (pe_and (pe_c CI hr (pa_cons (pv 0) pa_nil)) (pe_one (pe_chain op_le op_le pe_int (pv 0) pe_int)))), ?_⟩
    rcases h with ⟨i, rfl, h0, h1, q⟩ | ⟨rfl, q⟩ | ⟨a, xs, rfl, hx, q⟩
    · refine ⟨_, rfl, _, rfl, .inl ⟨i, rfl, true, rfl, iteT ?_⟩⟩
      refine ⟨_, rfl, _, _, rfl, rfl, _, rfl, ?_⟩
      rw [decide_eq_true h0]
      refine iteT ⟨_, _, rfl, rfl, ?_⟩
      dsimp only
      rw [decide_eq_true h1]
      exact q
    · exact ⟨_, rfl, _, rfl, .inr (.inl ⟨rfl, false, rfl, iteF q⟩)⟩
    · exact ⟨_, rfl, _, rfl, .inr (.inr ⟨a, xs, rfl, hx, false, rfl, iteF q⟩)⟩
theorem sc_are_codes : FnScope ["thing", "part"] ["thing"] (defScope s_are_codes) := ⟨rfl, rfl, rfl, by decide +kernel, rfl, by decide +kernel, by decide +kernel⟩
/-- are_codes of a text -/
def spAre : Sp := fun vs H Q _ => ∃ (a : Addr) (cs : List Int), vs = [.ref a] ∧ (H a = some (.lst (cs.map V.int)) ∨ H a = some (.tup (cs.map V.int))) ∧ (∀ c ∈ cs, 0 ≤ c ∧ c ≤ 1114111) ∧ cs.length ≤ 1000 ∧ ∀ H', Same H H' → Q (.bl true) H'
theorem all_true (n : Nat) : (List.replicate n true).all id = true := by
  induction n with
  | zero => rfl
  | succ n ih => rw [List.replicate_succ, List.all_cons, ih]; rfl
theorem rep_snoc (n : Nat) : (List.replicate n true).map V.bl ++ [V.bl true] = (List.replicate (n + 1) true).map V.bl := by
  rw [List.replicate_succ', List.map_append]
  rfl
theorem ok_are_codes (F : FD K d_are_codes f fd) (g : mg "are_codes" = some (.ref f)) (M : Mo mg) (CI : Cal P w K mg base "is_integer" 1 ["thing"] [] spIsInt) (CR : Cal P w K mg base "is_row" 1 ["thing"] [] spIsRow) : Cal P w K mg base "are_codes" 2 ["thing"] [] spAre := by
  refine cal0 F g (ok0 F sc_are_codes (fun vs H Q E h => ?_) fun cdv A outer s H vs Q E ec hr h => ?_) fun _ _ _ _ _ _ us hl => match us, hl with | [_], _ => rfl
  · obtain ⟨a, cs, rfl, _⟩ := h
    rfl
  · obtain ⟨a, cs, rfl, hx, hcs, hlen, q⟩ := h
    obtain ⟨tg, hgr⟩ := M.gr
    -- one turn of the comprehension
    have turn : ∀ (D : Addr) (H0 : Hp) (σ2 : L2.St) (i : Nat) (x : V) (H1 : Hp) (R : VK), (cs.map V.int)[i]? = some x → σ2[1]? = some (some x) → (Same H H1 ∧ H1 D = some (.lst ((List.replicate i true).map V.bl))) → (i < cs.length → R (.bl true) H1) →
        tAndV (tCall spIsInt [] E0 (tCons (tVar 1) tNil)) (tChain (rI0 fun i j => .bl (decide (i ≤ j))) (rI0 fun i j => .bl (decide (i ≤ j))) (tC (.int 0)) (tVar 1) (tC (.int 1114111))) σ2 H1 R := by
      intro D H0 σ2 i x H1 R hi hσ hP hR
      rw [List.getElem?_map] at hi
      cases e : cs[i]? with
      | none => rw [e] at hi; cases hi
      | some c =>
        rw [e] at hi
        have ex : V.int c = x := Option.some.inj hi
        subst ex
        obtain ⟨h0, h1⟩ := hcs c (List.mem_of_getElem? e)
        refine ⟨_, hσ, _, rfl, .inl ⟨c, rfl, true, rfl, iteT ?_⟩⟩
        refine ⟨_, hσ, _, _, rfl, rfl, _, rfl, ?_⟩
        rw [decide_eq_true h0]
        refine iteT ⟨_, _, rfl, rfl, ?_⟩
        dsimp only
        rw [decide_eq_true h1]
        exact hR (List.getElem?_eq_some_iff.mp e).1
    rcases hx with hx | hx
    · refine ⟨_, pss_one (ps_ret (pe_and (pe_c CR hr (pa_cons (pv 0) pa_nil)) (pe_one (pe_callB (cr_all rfl) (by rfl) M.all b_all (pa_cons (pe_lc (own := [("part", 1)]) (g := gName 1) (tt := tYes) rfl sc_are_codes.nd (pi_list (pv 0))
        (blkOk_by (N := ["thing", "part"]) (sc := defScope s_are_codes) (by decide +kernel)) (fun _ _ _ _ _ => pg_name (i := 1) sc_are_codes.nd rfl (Or.inl rfl)) (fun _ _ _ _ _ => pts_nil)
        (fun _ _ _ _ _ => pe_and (pe_c CI hr (pa_cons (pv 1) pa_nil)) (pe_one (pe_chain op_le op_le pe_int (pv 1) (pe_glob (v := .int 1114111) (by rfl) hgr ⟨_, rfl⟩))))) pa_nil))))), ?_⟩
      refine ⟨_, rfl, a, _, rfl, .inl hx, fun H1 s1 => ⟨true, rfl, iteT ?_⟩⟩
      refine ⟨_, rfl, a, rfl, ⟨_, SqL.of (s1 _ _ hx)⟩, fun D hD => lc_list (K := K) (a := a) (xs := cs.map V.int) (fun i H2 => Same H H2 ∧ H2 D = some (.lst ((List.replicate i true).map V.bl))) ⟨s1.trans (Same.upd hD), upd_same⟩ (fun i H2 _ ⟨z, _⟩ => SqL.of (z _ _ hx)) ?_ ?_⟩
      · intro i x H2 hi hP
        refine ⟨rfl, turn D H2 _ i x H2 _ hi rfl hP fun hlt => ⟨_, hP.2, ?_, ?_⟩⟩
        · rw [List.length_map, List.length_replicate, sizeLine_eq]
          omega
        · have nD : H D = none := s1.free hD
          exact ⟨fun b o e => by rw [upd_ne (ne_of_none e nD)]; exact hP.1 _ _ e, by rw [rep_snoc]; exact upd_same⟩
      · rintro H2 ⟨s2, h2⟩
        refine ⟨D, _, rfl, SqL.of h2, ?_⟩
        rw [all_true]
        exact q _ s2
    · refine ⟨_, pss_one (ps_ret (pe_and (pe_c CR hr (pa_cons (pv 0) pa_nil)) (pe_one (pe_callB (cr_all rfl) (by rfl) M.all b_all (pa_cons (pe_lc (own := [("part", 1)]) (g := gName 1) (tt := tYes) rfl sc_are_codes.nd (pi_tup (pv 0))
        (blkOk_by (N := ["thing", "part"]) (sc := defScope s_are_codes) (by decide +kernel)) (fun _ _ _ _ _ => pg_name (i := 1) sc_are_codes.nd rfl (Or.inl rfl)) (fun _ _ _ _ _ => pts_nil)
        (fun _ _ _ _ _ => pe_and (pe_c CI hr (pa_cons (pv 1) pa_nil)) (pe_one (pe_chain op_le op_le pe_int (pv 1) (pe_glob (v := .int 1114111) (by rfl) hgr ⟨_, rfl⟩))))) pa_nil))))), ?_⟩
      refine ⟨_, rfl, a, _, rfl, .inr hx, fun H1 s1 => ⟨true, rfl, iteT ?_⟩⟩
      refine ⟨_, rfl, a, rfl, ⟨_, SqT.of (s1 _ _ hx)⟩, fun D hD => lc_tup (K := K) (a := a) (xs := cs.map V.int) (fun i H2 => Same H H2 ∧ H2 D = some (.lst ((List.replicate i true).map V.bl))) ⟨s1.trans (Same.upd hD), upd_same⟩ (fun i H2 _ ⟨z, _⟩ => SqT.of (z _ _ hx)) ?_ ?_⟩
      · intro i x H2 hi hP
        refine ⟨rfl, turn D H2 _ i x H2 _ hi rfl hP fun hlt => ⟨_, hP.2, ?_, ?_⟩⟩
        · rw [List.length_map, List.length_replicate, sizeLine_eq]
          omega
        · have nD : H D = none := s1.free hD
          exact ⟨fun b o e => by rw [upd_ne (ne_of_none e nD)]; exact hP.1 _ _ e, by rw [rep_snoc]; exact upd_same⟩
      · rintro H2 ⟨s2, h2⟩
        refine ⟨D, _, rfl, SqL.of h2, ?_⟩
        rw [all_true]
        exact q _ s2
end K58


set_option Elab.async false
set_option linter.all false
set_option maxRecDepth 100000
set_option maxHeartbeats 4000000
namespace K58
open PySem PySem.Spec PyProof.Rows L2
/-! ### entries of a table -/
inductive Ent where
  | hole
  | code (c : Int)
  | txt (cs : List Int)
/-- what an entry becomes -/
def Ent.cs : Ent → List Int
  | .hole => []
  | .code c => [c]
  | .txt l => l
/-- the value v is the entry e (texts have at most two codes here) -/
def EntAt (H : Hp) (v : V) : Ent → Prop
  | .hole => v = .non
  | .code c => v = .int c ∧ 0 ≤ c ∧ c ≤ 1114111
  | .txt cs => ∃ a, v = .ref a ∧ (H a = some (.lst (cs.map V.int)) ∨ H a = some (.tup (cs.map V.int))) ∧ (∀ c ∈ cs, 0 ≤ c ∧ c ≤ 1114111) ∧ cs.length ≤ 2
/-- what stays: all but tables of code objects and the list at s -/
def Kx (s : Addr) (H H' : Hp) : Prop := ∀ b o, H b = some o → b ≠ s → (∀ ps, o ≠ .tbl ps) → H' b = some o
theorem EntAt.ext {H H' : Hp} {v : V} {e : Ent} (h : EntAt H v e) (x : LamX.ExtN H H') : EntAt H' v e := by
  cases e with
  | hole => exact h
  | code c => exact h
  | txt cs =>
    obtain ⟨a, e1, e2, e3⟩ := h
    exact ⟨a, e1, e2.elim (fun z => .inl (x _ _ z (fun _ q => by cases q))) (fun z => .inr (x _ _ z (fun _ q => by cases q))), e3⟩
theorem ExtN.same {H H' : Hp} (s : Same H H') : LamX.ExtN H H' := LamX.ExtN.of s
/-- items with their places -/
def enumI : Nat → List V → List (Int × V)
  | _, [] => []
  | i, v :: r => ((i : Nat), v) :: enumI (i + 1) r
theorem enumI_len : ∀ (i : Nat) (l : List V), (enumI i l).length = l.length
  | _, [] => rfl
  | i, v :: r => by
    show (enumI (i + 1) r).length + 1 = r.length + 1
    rw [enumI_len]
theorem enumI_get : ∀ (i : Nat) (l : List V) (j : Nat), (enumI i l)[j]? = (l[j]?).map fun v => (((i + j : Nat) : Int), v)
  | _, [], j => by simp [enumI]
  | i, v :: r, 0 => by simp [enumI]
  | i, v :: r, j + 1 => by
    have ih := enumI_get (i + 1) r j
    have e : i + 1 + j = i + (j + 1) := by omega
    simp only [enumI, List.getElem?_cons_succ, ih, e]
theorem enumI_fst : ∀ (i : Nat) (l : List V), (enumI i l).map (·.1) = (List.range' i l.length).map fun n : Nat => (n : Int)
  | _, [] => rfl
  | i, v :: r => by
    have ih := enumI_fst (i + 1) r
    simp only [enumI, List.map_cons, ih, List.length_cons, List.range'_succ]
theorem enumI_nodup (i : Nat) (l : List V) : ((enumI i l).map (·.1)).Nodup := by
  rw [enumI_fst]
  refine List.Pairwise.map _ (fun a b h => ?_) (List.nodup_range' (s := i) (n := l.length))
  intro z
  exact h (Int.ofNat.inj z)
theorem enumI_snd (i : Nat) (l : List V) : (enumI i l).map (·.2) = l := by
  induction l generalizing i with
  | nil => rfl
  | cons v r ih => simp only [enumI, List.map_cons, ih]
/-- the object at a is a table with these pairs -/
def TabAt (H : Hp) (a : Addr) (prs : List (Int × V)) : Prop := (∃ es : List V, (H a = some (.lst es) ∨ H a = some (.tup es)) ∧ prs = enumI 0 es) ∨ H a = some (.dK (prs.map fun q => (Sum.inl q.1, q.2)))
/-- its pairs are well made -/
structure GoodP (H : Hp) (prs : List (Int × V)) : Prop where
  len : prs.length ≤ 256
  nd : (prs.map (·.1)).Nodup
  ok : ∀ q ∈ prs, 0 ≤ q.1 ∧ q.1 ≤ 255 ∧ ∃ e, EntAt H q.2 e
/-- a list of pairs -/
structure PrsL (H : Hp) (p : Addr) (ts : List Addr) (prs : List (Int × V)) : Prop where
  lst : H p = some (.lst (ts.map V.ref))
  len : ts.length = prs.length
  at_ : ∀ (j : Nat) (t : Addr) (q : Int × V), ts[j]? = some t → prs[j]? = some q → H t = some (.tup [.int q.1, q.2])
theorem PrsL.same {H H' : Hp} {p : Addr} {ts : List Addr} {prs : List (Int × V)} (h : PrsL H p ts prs) (x : LamX.ExtN H H') : PrsL H' p ts prs :=
  ⟨x _ _ h.lst (fun _ q => by cases q), h.len, fun j t q a b => x _ _ (h.at_ j t q a b) (fun _ q => by cases q)⟩
theorem perm_map_inv {α β : Type} {f : α → β} {l m : List β} (h : l.Perm m) : ∀ Z : List α, m = Z.map f → ∃ Z' : List α, Z'.Perm Z ∧ l = Z'.map f := by
  induction h with
  | nil => intro Z e; exact ⟨Z, List.Perm.refl _, e⟩
  | cons x h ih =>
    intro Z e
    cases Z with
    | nil => cases e
    | cons z Z =>
      rw [List.map_cons] at e
      injection e with e1 e2
      obtain ⟨Z', p, q⟩ := ih Z e2
      exact ⟨z :: Z', p.cons z, by rw [List.map_cons, e1, q]⟩
  | swap x y l =>
    intro Z e
    cases Z with
    | nil => cases e
    | cons z Z =>
      cases Z with
      | nil => simp at e
      | cons z2 Z =>
        simp only [List.map_cons] at e
        injection e with e1 e2
        injection e2 with e2 e3
        exact ⟨z2 :: z :: Z, List.Perm.swap _ _ _, by simp only [List.map_cons, e1, e2, e3]⟩
  | trans h1 h2 ih1 ih2 =>
    intro Z e
    obtain ⟨Z2, p2, q2⟩ := ih2 Z e
    obtain ⟨Z1, p1, q1⟩ := ih1 Z2 q2
    exact ⟨Z1, p1.trans p2, q1⟩
/-- an intermediate stand behind a statement -/
def tCutK (t u : TS) : TS := fun D σ H => ∃ Mid : L2.St → Hp → Prop, t { D with nx := Mid } σ H ∧ ∀ σ' H', Mid σ' H' → u D σ' H'
theorem pss_cutK {X : Cx} {st : Stmt} {rest : List Stmt} {t u : TS} (h1 : PS X st t) (h2 : PSs X rest u) : PSs X (st :: rest) (tCutK t u) := by
  refine ⟨fun pins s σ H D I h => ?_⟩
  obtain ⟨Mid, a, b⟩ := h
  refine (pss_cons (t := fun D' σ' H' => t { D' with nx := Mid } σ' H' ∧ (∀ σ2 H2, Mid σ2 H2 → D'.nx σ2 H2)) (u := u) ⟨fun pins s σ H D I h => ?_⟩ h2).run pins s σ H D I ⟨a, b⟩
  refine wpAny_mono (h1.run pins s σ H _ I h.1) (fun fl s' hs => ?_) fun _ _ z => z
  cases fl with
  | next => obtain ⟨σ', H', J, q⟩ := hs; exact ⟨σ', H', J, h.2 _ _ q⟩
  | brk => exact hs
  | cont => exact hs
  | ret v => exact hs
theorem tabs_same {T : List (Addr × Str)} {H H' : Hp} (t : LamX.Tabs T H) (s : Same H H') : LamX.Tabs T H' := t.ext s
end K58


set_option Elab.async false
set_option linter.all false
set_option maxRecDepth 100000
set_option maxHeartbeats 4000000
namespace K58
open PySem PySem.Spec PyProof.Rows L2
/-! ### the way back, plainly -/
def mapB (l : List (Int × Int)) : List (Key × V) := l.map fun q => (Sum.inl q.1, V.int q.2)
def putB (l : List (Int × Int)) (c o : Int) : List (Int × Int) :=
  if (l.any fun q => decide (q.1 = c)) = true then l.map (fun q => if q.1 = c then (q.1, o) else q) else l ++ [(c, o)]
theorem any_mapB (l : List (Int × Int)) (c : Int) : ((mapB l).any fun kv => decide (kv.1 = (Sum.inl c : Key))) = l.any fun q => decide (q.1 = c) := by
  unfold mapB
  rw [List.any_map]
  congr 1
  funext q
  show decide ((Sum.inl q.1 : Key) = Sum.inl c) = decide (q.1 = c)
  by_cases h : q.1 = c
  · rw [decide_eq_true h, decide_eq_true (by rw [h])]
  · rw [decide_eq_false h, decide_eq_false (fun z => h (Sum.inl.inj z))]
theorem putK_mapB (l : List (Int × Int)) (c o : Int) : putK (mapB l) (Sum.inl c) (.int o) = mapB (putB l c o) := by
  unfold putK putB
  rw [any_mapB]
  by_cases h : (l.any fun q => decide (q.1 = c)) = true
  · rw [if_pos h, if_pos h]
    unfold mapB
    rw [List.map_map, List.map_map]
    congr 1
    funext q
    show (if (Sum.inl q.1 : Key) = Sum.inl c then ((Sum.inl q.1 : Key), V.int o) else (Sum.inl q.1, V.int q.2)) = ((Sum.inl (if q.1 = c then (q.1, o) else q).1 : Key), V.int (if q.1 = c then (q.1, o) else q).2)
    by_cases e : q.1 = c
    · rw [if_pos e, if_pos (by rw [e])]
    · rw [if_neg e, if_neg (fun z => e (Sum.inl.inj z))]
  · rw [if_neg h, if_neg h]
    unfold mapB
    rw [List.map_append]
    rfl
theorem mem_putB {l : List (Int × Int)} {c o c' o' : Int} : (c', o') ∈ putB l c o ↔ (c' = c ∧ o' = o) ∨ (c' ≠ c ∧ (c', o') ∈ l) := by
  unfold putB
  by_cases h : (l.any fun q => decide (q.1 = c)) = true
  · rw [if_pos h, List.mem_map]
    constructor
    · rintro ⟨q, hq, e⟩
      by_cases z : q.1 = c
      · rw [if_pos z] at e
        injection e with e1 e2
        exact .inl ⟨by rw [← e1, z], e2.symm⟩
      · rw [if_neg z] at e
        subst e
        exact .inr ⟨z, hq⟩
    · rintro (⟨rfl, rfl⟩ | ⟨hn, hm⟩)
      · obtain ⟨q, hq, e⟩ := List.any_eq_true.mp h
        have e := of_decide_eq_true e
        exact ⟨q, hq, by rw [if_pos e, e]⟩
      · exact ⟨_, hm, by rw [if_neg hn]⟩
  · rw [if_neg h, List.mem_append, List.mem_singleton]
    constructor
    · rintro (hm | e)
      · refine .inr ⟨fun z => h (List.any_eq_true.mpr ⟨_, hm, decide_eq_true z⟩), hm⟩
      · injection e with e1 e2
        exact .inl ⟨e1, e2⟩
    · rintro (⟨rfl, rfl⟩ | ⟨_, hm⟩)
      · exact .inr rfl
      · exact .inl hm
theorem nodup_putB {l : List (Int × Int)} {c o : Int} (nd : (l.map (·.1)).Nodup) : ((putB l c o).map (·.1)).Nodup := by
  unfold putB
  by_cases h : (l.any fun q => decide (q.1 = c)) = true
  · rw [if_pos h, List.map_map]
    have e : ((fun x : Int × Int => x.1) ∘ fun q => if q.1 = c then (q.1, o) else q) = fun x => x.1 := by
      funext q
      show (if q.1 = c then (q.1, o) else q).1 = q.1
      by_cases z : q.1 = c
      · rw [if_pos z]
      · rw [if_neg z]
    rw [e]
    exact nd
  · rw [if_neg h, List.map_append, List.nodup_append]
    refine ⟨nd, List.pairwise_singleton _ _, fun a ha b hb => ?_⟩
    rw [List.map_cons, List.map_nil, List.mem_singleton] at hb
    subst hb
    obtain ⟨q, hq, rfl⟩ := List.mem_map.mp ha
    intro z
    exact h (List.any_eq_true.mpr ⟨q, hq, decide_eq_true z⟩)
theorem len_putB {l : List (Int × Int)} {c o : Int} : (putB l c o).length ≤ l.length + 1 := by
  unfold putB
  by_cases h : (l.any fun q => decide (q.1 = c)) = true
  · rw [if_pos h, List.length_map]
    omega
  · rw [if_neg h, List.length_append]
    exact Nat.le_refl _
/-- back is the way back of the pairs L of codes and bytes -/
structure IsB (L back : List (Int × Int)) : Prop where
  nd : (back.map (·.1)).Nodup
  len : back.length ≤ L.length
  mem : ∀ c o, (c, o) ∈ back ↔ (c, o) ∈ L ∧ ∀ o', (c, o') ∈ L → o' ≤ o
theorem IsB.nil : IsB [] [] := ⟨List.Pairwise.nil, Nat.le_refl _, fun c o => ⟨fun h => absurd h List.not_mem_nil, fun h => absurd h.1 List.not_mem_nil⟩⟩
theorem IsB.step {L back : List (Int × Int)} {c o : Int} (h : IsB L back) (hm : ∀ q ∈ L, q.2 ≤ o) : IsB (L ++ [(c, o)]) (putB back c o) := by
  refine ⟨nodup_putB h.nd, ?_, fun c' o' => ?_⟩
  · have := @len_putB back c o
    have := h.len
    rw [List.length_append, List.length_singleton]
    omega
  · rw [mem_putB]
    simp only [List.mem_append, List.mem_singleton, Prod.mk.injEq]
    by_cases e : c' = c
    · subst e
      constructor
      · rintro (⟨_, rfl⟩ | ⟨z, _⟩)
        · refine ⟨.inr ⟨rfl, rfl⟩, fun o2 h2 => ?_⟩
          rcases h2 with h2 | ⟨_, rfl⟩
          · exact hm _ h2
          · exact Int.le_refl _
        · exact absurd rfl z
      · rintro ⟨h1 | ⟨_, rfl⟩, h2⟩
        · have a := hm _ h1
          have b := h2 o (.inr ⟨rfl, rfl⟩)
          exact .inl ⟨rfl, Int.le_antisymm a b⟩
        · exact .inl ⟨rfl, rfl⟩
    · constructor
      · rintro (⟨z, _⟩ | ⟨_, hb⟩)
        · exact absurd z e
        · obtain ⟨a, b⟩ := (h.mem c' o').mp hb
          refine ⟨.inl a, fun o2 h2 => ?_⟩
          rcases h2 with h2 | ⟨z, _⟩
          · exact b _ h2
          · exact absurd z e
      · rintro ⟨h1 | ⟨z, _⟩, h2⟩
        · exact .inr ⟨e, (h.mem c' o').mpr ⟨h1, fun o2 h3 => h2 o2 (.inl h3)⟩⟩
        · exact absurd z e
def codeOf : Int × V → Option (Int × Int)
  | (o, .int c) => some (c, o)
  | _ => none
def codesL (l : List (Int × V)) : List (Int × Int) := l.filterMap codeOf
theorem mem_codesL {l : List (Int × V)} {c o : Int} : (c, o) ∈ codesL l ↔ (o, V.int c) ∈ l := by
  unfold codesL
  rw [List.mem_filterMap]
  constructor
  · rintro ⟨⟨o', v⟩, h1, h2⟩
    cases v with
    | int c' =>
      have e := Option.some.inj h2
      injection e with e1 e2
      subst e1 e2
      exact h1
    | _ => cases h2
  · intro h
    exact ⟨_, h, rfl⟩
/-- o is the greatest byte whose entry is c -/
def G (prs : List (Int × V)) (c o : Int) : Prop := (o, V.int c) ∈ prs ∧ ∀ o', (o', V.int c) ∈ prs → o' ≤ o
theorem IsB.g {prs : List (Int × V)} {back : List (Int × Int)} (h : IsB (codesL prs) back) (c o : Int) : (c, o) ∈ back ↔ G prs c o := by
  rw [h.mem, mem_codesL]
  exact ⟨fun ⟨a, b⟩ => ⟨a, fun o' h' => b o' (mem_codesL.mpr h')⟩, fun ⟨a, b⟩ => ⟨a, fun o' h' => b o' (mem_codesL.mp h')⟩⟩
theorem G.congr {p q : List (Int × V)} (h : ∀ o c, (o, V.int c) ∈ p ↔ (o, V.int c) ∈ q) {c o : Int} (g : G p c o) : G q c o :=
  ⟨(h _ _).mp g.1, fun o' h' => g.2 o' ((h _ _).mpr h')⟩
theorem maxP (Pr : Int → Prop) : ∀ l : List Int, (∃ x ∈ l, Pr x) → ∃ m ∈ l, Pr m ∧ ∀ x ∈ l, Pr x → x ≤ m
  | [], ⟨_, h, _⟩ => by cases h
  | y :: r, h => by
    by_cases hr : ∃ x ∈ r, Pr x
    · obtain ⟨m, h1, h2, h3⟩ := maxP Pr r hr
      by_cases hy : Pr y ∧ m < y
      · refine ⟨y, List.mem_cons_self, hy.1, fun x hx px => ?_⟩
        rcases List.mem_cons.mp hx with rfl | hx
        · exact Int.le_refl _
        · have := h3 x hx px
          have := hy.2
          omega
      · refine ⟨m, List.mem_cons_of_mem _ h1, h2, fun x hx px => ?_⟩
        rcases List.mem_cons.mp hx with rfl | hx
        · by_cases z : x ≤ m
          · exact z
          · exact absurd ⟨px, by omega⟩ hy
        · exact h3 x hx px
    · obtain ⟨x, hx, px⟩ := h
      rcases List.mem_cons.mp hx with rfl | hx
      · refine ⟨x, List.mem_cons_self, px, fun z hz pz => ?_⟩
        rcases List.mem_cons.mp hz with rfl | hz
        · exact Int.le_refl _
        · exact absurd ⟨z, hz, pz⟩ hr
      · exact absurd ⟨x, hx, px⟩ hr
theorem G.ex {prs : List (Int × V)} {c o : Int} (h : (o, V.int c) ∈ prs) : ∃ o', G prs c o' := by
  obtain ⟨m, _, h2, h3⟩ := maxP (fun o => (o, V.int c) ∈ prs) (prs.map (·.1)) ⟨o, List.mem_map.mpr ⟨_, h, rfl⟩, h⟩
  exact ⟨m, h2, fun o' h' => h3 o' (List.mem_map.mpr ⟨_, h', rfl⟩) h'⟩
theorem codesL_take {l : List (Int × V)} {i : Nat} {q : Int × V} (h : l[i]? = some q) : codesL (l.take (i + 1)) = codesL (l.take i) ++ (codeOf q).toList := by
  rw [List.take_add_one, h]
  unfold codesL
  rw [List.filterMap_append]
  have e : (some q).toList = [q] := rfl
  rw [e]
  cases z : codeOf q with
  | none => simp [z]
  | some y => simp [z]
theorem asc_take {l : List (Int × V)} (hs : l.Pairwise (fun x y => x.1 ≤ y.1)) {i : Nat} {q : Int × V} (h : l[i]? = some q) : ∀ p ∈ codesL (l.take i), p.2 ≤ q.1 := by
  rintro ⟨c, o⟩ hp
  have hp := mem_codesL.mp hp
  obtain ⟨j, hj⟩ := List.mem_iff_getElem?.mp hp
  rw [List.getElem?_take] at hj
  by_cases hji : j < i
  · rw [if_pos hji] at hj
    obtain ⟨h1, e1⟩ := List.getElem?_eq_some_iff.mp hj
    obtain ⟨h2, e2⟩ := List.getElem?_eq_some_iff.mp h
    have z := List.pairwise_iff_getElem.mp hs j i h1 h2 hji
    rw [e1, e2] at z
    exact z
  · rw [if_neg hji] at hj
    cases hj
theorem valV_mapB {l : List (Int × Int)} {c o : Int} (nd : (l.map (·.1)).Nodup) (h : (c, o) ∈ l) : valV (mapB l) (Sum.inl c) = some (.int o) := by
  have nd2 : ((mapB l).map (·.1)).Nodup := by
    unfold mapB
    rw [List.map_map]
    have e : ((fun x : Key × V => x.1) ∘ fun q : Int × Int => ((Sum.inl q.1 : Key), V.int q.2)) = (fun z : Int => (Sum.inl z : Key)) ∘ (fun q : Int × Int => q.1) := rfl
    rw [e, ← List.map_map]
    exact List.Pairwise.map _ (fun a b h z => h (Sum.inl.inj z)) nd
  exact val_nodup nd2 (Sum.inl c, V.int o) (List.mem_map.mpr ⟨_, h, rfl⟩)
/-- a dict from ints to tuples of ints that has at least g -/
def DTab (H : Hp) (d : Addr) (g : Int → List Int → Prop) : Prop := ∃ kvs : List (Key × V), H d = some (.dK kvs) ∧ ∀ k l, g k l → ∃ t, valV kvs (Sum.inl k) = some (.ref t) ∧ H t = some (.tup (l.map V.int))
theorem DTab.mono {H : Hp} {d : Addr} {g g' : Int → List Int → Prop} (h : DTab H d g) (m : ∀ k l, g' k l → g k l) : DTab H d g' := by
  obtain ⟨kvs, a, b⟩ := h
  exact ⟨kvs, a, fun k l q => b k l (m k l q)⟩
/-- what a table reads -/
def RT (H : Hp) (prs : List (Int × V)) (o : Int) (l : List Int) : Prop := ∃ v e, (o, v) ∈ prs ∧ EntAt H v e ∧ v ≠ .non ∧ l = e.cs
/-- what a way back writes -/
def W (prs : List (Int × V)) (c : Int) (l : List Int) : Prop := ∃ o, G prs c o ∧ l = [o]
theorem RT.ext {H H' : Hp} {prs : List (Int × V)} {o : Int} {l : List Int} (h : RT H prs o l) (x : LamX.ExtN H H') : RT H' prs o l := by
  obtain ⟨v, e, a, b, c⟩ := h
  exact ⟨v, e, a, b.ext x, c⟩
theorem DTab.ext {H H' : Hp} {d : Addr} {g : Int → List Int → Prop} (h : DTab H d g) (x : LamX.ExtN H H') : DTab H' d g := by
  obtain ⟨kvs, a, b⟩ := h
  refine ⟨kvs, x _ _ a (fun _ q => by cases q), fun k l q => ?_⟩
  obtain ⟨t, h1, h2⟩ := b k l q
  exact ⟨t, h1, x _ _ h2 (fun _ q => by cases q)⟩
end K58


set_option Elab.async false
set_option linter.all false
set_option maxRecDepth 100000
set_option maxHeartbeats 8000000
namespace K58
open PySem PySem.Spec PyProof.Rows L2
variable {P : Program} {w : World} {K : PySem.W.Frag} {mg : Str → Option Value} {base : Heap} {f : Addr} {fd : FuncData}
theorem zip_fst {α β γ : Type} : ∀ (l : List (α × β)) (ts : List γ), (l.map (·.1)).zip ts = (l.zip ts).map fun z => (z.1.1, z.2)
  | [], _ => rfl
  | _ :: _, [] => rfl
  | x :: l, t :: ts => by
    show (x.1, t) :: (l.map (·.1)).zip ts = (x.1, t) :: (l.zip ts).map fun z => (z.1.1, z.2)
    rw [zip_fst l ts]
/-- sorted(e, key=lambda ..) -/
theorem pe_sortLam {X : Cx} {T : List (Addr × Str)} {c Pt : Addr} {params : Arguments} {body : Expr} {scope : Scope} {e : Expr} {t : TA} {p pos lpos kpos : Pos} (TB : LamX.TabB X.base X.mg c Pt) (hcode : X.env.code = .ref c)
    (hmT : (Pt, X.env.qual ++ "<lambda>") ∈ T) (hu : ∀ p ∈ T, p.1 = Pt → p.2 = X.env.qual ++ "<lambda>") (Fi : R58.First params body scope) (hroom : X.A.in1.in1.depth < recursionLimit) (hm : X.mg "sorted" = none) (ha : PA X [e] t)
    (hg : Gl X "sorted" := by rfl) (hdef : defaultsOf params X.env = ([], []) := by rfl) (hcl : closureFor scope X.env = pure [] := by rfl)
    (he : backTo pos (starEach [e] X.env) = (false, eval e X.env) :: backTo pos (starEach [] X.env) := by rfl) (hpl : (backTo pos (starEach [e] X.env)).any (·.1) = false := by rfl)
    (hall : (backToKw pos (keywordEach [⟨some "key", .Lambda params body scope lpos, kpos⟩] X.env)).all (·.1.isSome) = true := by rfl) (hnone : (backToKw pos (keywordEach [⟨some "key", .Lambda params body scope lpos, kpos⟩] X.env)).any (·.1.isNone) = false := by rfl)
    (hks : (backToKw pos (keywordEach [⟨some "key", .Lambda params body scope lpos, kpos⟩] X.env)).filterMap (·.1) = [Str.ofString "key"] := by rfl) :
    PE X (.Call (.Name "sorted" p) [e] [⟨some "key", .Lambda params body scope lpos, kpos⟩] pos) (tCKw (R58.rSortLam X.K (X.env.qual ++ "<lambda>") params body scope) t (tCons (R58.tLamV T (X.env.qual ++ "<lambda>") params body scope) tNil)) :=
  pe_callBK (R58.cr_sortedLam Fi hroom) hg hm b_sorted ha (pk_cons (R58.pe_lamV TB hcode hmT hu hdef hcl) pk_nil) (by decide) (by decide) he hpl hall hnone hks
/-- a def's code object and its table -/
structure LT (base : Heap) (mg : Str → Option Value) (T : List (Addr × Str)) (fd : FuncData) (q : Str) : Prop where
  ex : ∃ c P, fd.code = .ref c ∧ LamX.TabB base mg c P ∧ (P, q ++ ".<locals>." ++ "<lambda>") ∈ T ∧ ∀ p ∈ T, p.1 = P → p.2 = q ++ ".<locals>." ++ "<lambda>"
theorem sc_entries_of : FnScope ["table", "pairs", "octet", "entry"] ["table"] (defScope s_entries_of) := ⟨rfl, rfl, rfl, by decide +kernel, rfl, by decide +kernel, by decide +kernel⟩
theorem kit_lt_l : PySem.W.kitAny K (.type "list") [.type "list", .type "tuple"] = some true := kitAny_cons (b := true) (kit_ty (by decide +kernel)) (fun z => by cases z) (fun _ => rfl)
theorem kit_lt_t : PySem.W.kitAny K (.type "tuple") [.type "list", .type "tuple"] = some true := kitAny_cons (b := false) (kit_ty (by decide +kernel)) (fun _ => kitAny_cons (b := true) (kit_ty (by decide +kernel)) (fun z => by cases z) (fun _ => rfl)) (fun z => by cases z)
theorem kit_lt_d : PySem.W.kitAny K (.type "dict") [.type "list", .type "tuple"] = some false := kitAny_cons (b := false) (kit_ty (by decide +kernel)) (fun _ => kitAny_cons (b := false) (kit_ty (by decide +kernel)) (fun _ => kitAny_nil) (fun z => by cases z)) (fun z => by cases z)
/-- the pairs of a table, ascending -/
def spEnt (T : List (Addr × Str)) : Sp := fun vs H Q _ => ∃ (a : Addr) (prs : List (Int × V)), vs = [.ref a] ∧ TabAt H a prs ∧ GoodP H prs ∧ LamX.Tabs T H ∧
  ∀ (H' : Hp) (p : Addr) (ts : List Addr) (srt : List (Int × V)), LamX.ExtN H H' → LamX.Tabs T H' → srt.Perm prs → srt.Pairwise (fun x y => x.1 ≤ y.1) → PrsL H' p ts srt → Q (.ref p) H'
theorem ok_entries_of {T : List (Addr × Str)} (F : FD K d_entries_of f fd) (g : mg "entries_of" = some (.ref f)) (M : Mo mg) (L : LT base mg T fd "entries_of") (CO : Cal P w K mg base "is_octet" 2 ["thing"] [] (spIn 255)) (CC : Cal P w K mg base "is_code" 2 ["thing"] [] (spIn 1114111))
    (CA : Cal P w K mg base "are_codes" 2 ["thing"] [] spAre) : Cal P w K mg base "entries_of" 3 ["table"] [] (spEnt T) := by
  obtain ⟨c, Pt, hfc, TB, hmT, hu⟩ := L.ex
  refine cal0 F g (ok0 F sc_entries_of (fun vs H Q E h => ?_) fun cdv A outer s H vs Q E ec hr h => ?_) fun _ _ _ _ _ _ us hl => match us, hl with | [_], _ => rfl
  · obtain ⟨a, prs, rfl, _⟩ := h
    rfl
  · obtain ⟨a, prs, rfl, hT, hG, hTb, q⟩ := h
    have hcd : cdv = .ref c := ec.symm.trans hfc
    have hu1 := hu_of hr
    have rm : (A.deeper (envOfC d_entries_of.qual d_entries_of.scope s.heap.objs.size f cdv)).in1.in1.depth < recursionLimit := by
      have h := hr.dp
      show (A.deeper (envOfC d_entries_of.qual d_entries_of.scope s.heap.objs.size f cdv)).depth < recursionLimit
      omega
    refine ⟨_, pss_cutK (ps_if (pt_val (pe_callB call_isiT (by rfl) M.isi b_isi (pa_cons (pv 0) (pa_cons (pe_tup (pa_cons (pe_bltn (v := .ty "list") (by rfl) M.list b_list rfl) (pa_cons (pe_bltn (v := .ty "tuple") (by rfl) M.tuple b_tuple rfl) pa_nil))) pa_nil))))
        (pss_one (ps_set (i := 1) sc_entries_of.nd rfl (.inl rfl) (En58.pe_listEnum rfl (pa_cons (pv 0) pa_nil) (by rfl) M.list (by rfl) M.enum)))
        (pss_one (ps_if (pt_val (pe_callB call_isi (by rfl) M.isi b_isi (pa_cons (pv 0) (pa_cons (pe_bltn (v := .ty "dict") (by rfl) M.dict b_dict rfl) pa_nil))))
          (pss_one (ps_lock (ps_setLc (i := 1) (own := [("octet", 2)]) (g := gName 2) (tt := tYes) rfl sc_entries_of.nd rfl rfl (sw_true rfl rfl rfl (by decide +kernel)) (pi_keys (pv 0))
            (blkOk_by (N := ["table", "pairs", "octet", "entry"]) (sc := defScope s_entries_of) (by decide +kernel)) (fun _ _ _ _ _ => pg_name (i := 2) sc_entries_of.nd rfl (Or.inl rfl)) (fun _ _ _ _ _ => pts_nil)
            (fun _ _ _ _ _ => pe_tup (pa_cons (pv 2) (pa_cons (pe_dget hu1 (pv 0) (pv 2) (fun _ _ => rfl)) pa_nil))))))
          pss_never)))
      (pss_cons (ps_for PassesOwn.never rfl (pi_list (pv 1)) (pg_tup rfl (pgs_cons (pg_name (i := 2) sc_entries_of.nd rfl (.inl rfl)) (pgs_cons (pg_name (i := 3) sc_entries_of.nd rfl (.inl rfl)) pgs_nil)))
        (pss_one (ps_if (PW.pt (pw_or (pt_not (pt_val (pe_c CO hr (pa_cons (pv 2) pa_nil)))) (pw_or1 (pt_not (PW.pt (pw_or (pt_cmp (pc_isN (pv 3)) rfl) (pw_or (pt_val (pe_c CC hr (pa_cons (pv 3) pa_nil))) (pw_or1 (pt_val (pe_c CA hr (pa_cons (pv 3) pa_nil))))))))))) pss_never pss_nil)))
      (pss_one (ps_ret (pe_sortLam TB hcd hmT hu ⟨⟨"pair", _, _, _, _, rfl, rfl, by decide, fun _ _ _ _ _ => rfl⟩, rfl, rfl, rfl⟩ rm M.sorted (pa_cons (pv 1) pa_nil))))), ?_⟩
    refine ⟨fun σ2 H2 => ∃ (p1 : Addr) (ts : List Addr), σ2 = [some (.ref a), some (.ref p1), none, none] ∧ Same H H2 ∧ PrsL H2 p1 ts prs, ?_, ?_⟩
    · -- the pairs are made
      refine ⟨_, rfl, by show 2 ≤ sizeLine; decide, fun p np => ?_⟩
      have s1 : Same H (upd H p (.tup [.ty "list", .ty "tuple"])) := Same.upd np
      rcases hT with ⟨es, hes, hprs⟩ | hd
      · -- a list or a tuple
        have step : (SqL K (upd H p (.tup [.ty "list", .ty "tuple"])) a es ∨ SqT K (upd H p (.tup [.ty "list", .ty "tuple"])) a es) → ∀ (R : V → Hp → Prop), (∀ (H' : Hp) (p' : Addr) (ts : List Addr), Same H H' → PrsL H' p' ts prs → R (.ref p') H') → En58.rEnumL K (.ref a) (upd H p (.tup [.ty "list", .ty "tuple"])) R := by
          intro hq R hR
          refine ⟨a, es, rfl, hq, fun H' p' ts e1 e2 e3 e4 e5 e6 e7 => hR H' p' ts (s1.trans e1) ⟨e5, ?_, fun j t q' h1 h2 => ?_⟩⟩
          · rw [e6, hprs, enumI_len]
          · rw [hprs, enumI_get] at h2
            cases z : es[j]? with
            | none => rw [z] at h2; cases h2
            | some y =>
              rw [z] at h2
              have e : (((0 + j : Nat) : Int), y) = q' := Option.some.inj h2
              subst e
              rw [e7 j t y h1 z, Nat.zero_add]
        rcases hes with hx | hx
        · have hx' := s1 _ _ hx
          exact ⟨_, p, _, _, _, true, rfl, upd_same, .cons (.ty "list") (.cons (.ty "tuple") .nil), .base (.lst hx'), kit_lt_l, true, rfl, iteT ⟨_, rfl, _, rfl, step (.inl (SqL.of hx')) _ fun H' p' ts s2 hp => ⟨p', ts, rfl, s2, hp⟩⟩⟩
        · have hx' := s1 _ _ hx
          exact ⟨_, p, _, _, _, true, rfl, upd_same, .cons (.ty "list") (.cons (.ty "tuple") .nil), .base (.tup hx'), kit_lt_t, true, rfl, iteT ⟨_, rfl, _, rfl, step (.inr (SqT.of hx')) _ fun H' p' ts s2 hp => ⟨p', ts, rfl, s2, hp⟩⟩⟩
      · -- a dict
        have hd' := s1 _ _ hd
        refine ⟨_, p, _, _, _, false, rfl, upd_same, .cons (.ty "list") (.cons (.ty "tuple") .nil), .base (.dK hd'), kit_lt_d, false, rfl, iteF ?_⟩
        refine ⟨_, rfl, _, _, _, _, true, rfl, .ty "dict", .base (.dK hd'), kit_ty (by decide +kernel), true, rfl, iteT ?_⟩
        refine ⟨a, _, hd', trivial, fun od => ?_⟩
        refine ⟨_, rfl, a, od, rfl, .inl ⟨_, upd_same, fun D hD => lc_it (walk_keys (d := a) (o := od) (kvs := prs.map fun q => (Sum.inl q.1, q.2)))
          (fun i H2 => Same (upd (upd H p (.tup [.ty "list", .ty "tuple"])) a (.frz od (.dK (prs.map fun q => (Sum.inl q.1, q.2))))) H2 ∧ ∃ ts : List Addr, ts.length = i ∧ H2 D = some (.lst (ts.map V.ref)) ∧ ∀ (j : Nat) (t : Addr) (q' : Int × V), ts[j]? = some t → prs[j]? = some q' → H2 t = some (.tup [.int q'.1, q'.2]))
          ⟨Same.upd hD, [], rfl, upd_same, fun j t q' h1 _ => by simp at h1⟩ (fun i H2 _ h => h.1 _ _ upd_same) ?_ ?_⟩⟩
        · rintro i x H2 H3 hi ⟨sf, ts, hl, hDl, hat⟩ ⟨rfl, k, v, hk, rfl⟩
          rw [List.getElem?_map] at hk
          cases z : prs[i]? with
          | none => rw [z] at hk; cases hk
          | some q' =>
            rw [z] at hk
            have e : (Sum.inl q'.1, q'.2) = (k, v) := Option.some.inj hk
            injection e with e1 e2
            subst e1 e2
            have hfz : H3 a = some (.frz od (.dK (prs.map fun q => (Sum.inl q.1, q.2)))) := sf _ _ upd_same
            have hv : valV (prs.map fun q => ((Sum.inl q.1 : Key), q.2)) (Sum.inl q'.1) = some q'.2 := by
              have nd : ((prs.map fun q => ((Sum.inl q.1 : Key), q.2)).map (·.1)).Nodup := by
                rw [List.map_map]
                have e : (((fun x : Key × V => x.1) ∘ fun q : Int × V => ((Sum.inl q.1 : Key), q.2))) = (fun z : Int => (Sum.inl z : Key)) ∘ (fun q : Int × V => q.1) := rfl
                rw [e, ← List.map_map]
                exact List.Pairwise.map _ (fun a b h z => h (Sum.inl.inj z)) hG.nd
              exact val_nodup nd (Sum.inl q'.1, q'.2) (List.mem_map.mpr ⟨q', List.mem_of_getElem? z, rfl⟩)
            have hlen : ts.length < sizeLine := by
              have h1 : i < prs.length := (List.getElem?_eq_some_iff.mp z).1
              have h2 := hG.len
              rw [sizeLine_eq]
              omega
            refine ⟨rfl, ?_⟩
            dsimp only [tYes]
            rw [if_pos rfl]
            refine ⟨_, rfl, _, rfl, _, rfl, a, q'.2, rfl, .inl ⟨_, Sum.inl q'.1, .inr ⟨od, hfz⟩, rfl, hv.symm⟩, by show 2 ≤ sizeLine; decide, fun p2 np2 => ?_⟩
            have nDp : D ≠ p2 := ne_of_none hDl np2
            refine ⟨ts.map V.ref, by rw [upd_ne nDp]; exact hDl, by rw [List.length_map]; exact hlen, fun b o eb => ?_, ts ++ [p2], by rw [List.length_append, hl]; rfl, by rw [upd_same, List.map_append]; rfl, fun j t q2 h1 h2 => ?_⟩
            · rw [upd_ne (ne_of_none eb hD), upd_ne (ne_of_none (sf _ _ eb) np2)]
              exact sf _ _ eb
            · by_cases hj : j < ts.length
              · rw [List.getElem?_append_left hj] at h1
                have h3 := hat j t q2 h1 h2
                rw [upd_ne (ne_of h3 hDl (by intro z; cases z)), upd_ne (ne_of_none h3 np2)]
                exact h3
              · have hjl : j < (ts ++ [p2]).length := (List.getElem?_eq_some_iff.mp h1).1
                rw [List.length_append, List.length_singleton] at hjl
                have ej : j = ts.length := by omega
                subst ej
                rw [List.getElem?_append_right (Nat.le_refl _), Nat.sub_self] at h1
                have et : p2 = t := Option.some.inj h1
                subst et
                rw [hl, z] at h2
                have eq2 : q' = q2 := Option.some.inj h2
                subst eq2
                rw [upd_ne (Ne.symm nDp), upd_same]
                rfl
        · rintro H2 ⟨sf, ts, hl, hDl, hat⟩
          rw [List.length_map] at hl
          have hfz : H2 a = some (.frz od (.dK (prs.map fun q => (Sum.inl q.1, q.2)))) := sf _ _ upd_same
          have off : ∀ b o, H2 b = some o → o ≠ .frz od (.dK (prs.map fun q => (Sum.inl q.1, q.2))) → upd H2 a (.dK (prs.map fun q => (Sum.inl q.1, q.2))) b = some o := fun b o eb no => by
            rw [upd_ne (ne_of eb hfz no)]
            exact eb
          refine ⟨hfz, D, ts, rfl, fun b o eb => ?_, ⟨off _ _ hDl (by intro z; cases z), hl, fun j t q' h1 h2 => off _ _ (hat j t q' h1 h2) (by intro z; cases z)⟩⟩
          by_cases hb : b = a
          · subst hb
            rw [hd] at eb
            cases eb
            exact upd_same
          · rw [upd_ne hb]
            exact sf b o (by rw [upd_ne hb]; exact s1 _ _ eb)
    · -- they are looked at, and sorted
      rintro σ2 H2 ⟨p1, ts, rfl, s2, hL⟩
      refine ⟨_, rfl, p1, rfl, ⟨_, SqL.of hL.lst⟩, for_list (K := K) (a := p1) (xs := ts.map V.ref) (fun i σ3 H3 => ∃ v2 v3, σ3 = [some (.ref a), some (.ref p1), v2, v3] ∧ Same H2 H3) ⟨none, none, rfl, Same.refl _⟩ (fun i σ3 H3 _ ⟨_, _, _, z⟩ => SqL.of (z _ _ hL.lst)) ?_ ?_⟩
      · rintro i x σ3 H3 hi ⟨v2, v3, rfl, s3⟩
        rw [List.getElem?_map] at hi
        cases z : ts[i]? with
        | none => rw [z] at hi; cases hi
        | some t =>
          rw [z] at hi
          have ex : V.ref t = x := Option.some.inj hi
          subst ex
          have hlt : i < prs.length := by
            rw [← hL.len]
            exact (List.getElem?_eq_some_iff.mp z).1
          have hq : prs[i]? = some prs[i] := List.getElem?_eq_getElem hlt
          have ht := hL.at_ i t _ z hq
          obtain ⟨h0, h1, e, he⟩ := hG.ok _ (List.mem_of_getElem? hq)
          have he3 : EntAt H3 prs[i].2 e := (he.ext (ExtN.same s2)).ext (ExtN.same s3)
          refine ⟨t, _, rfl, SqT.of (s3 _ _ ht), rfl, _, _, rfl, _, _, rfl, rfl, ?_⟩
          refine ⟨_, rfl, _, rfl, .inl ⟨_, rfl, h0, h1, true, rfl, iteF ?_⟩⟩
          have nxt : ∀ H4, Same H3 H4 → ∃ v2 v3, ([some (V.ref a), some (V.ref p1), some (V.int prs[i].1), some prs[i].2] : List (Option V)) = [some (.ref a), some (.ref p1), v2, v3] ∧ Same H2 H4 := fun H4 s4 => ⟨_, _, rfl, s3.trans s4⟩
          cases e with
          | hole =>
            have ev : prs[i].2 = V.non := he3
            refine ⟨_, rfl, _, rfl, ?_⟩
            rw [decide_eq_true ev]
            exact iteT (iteF (nxt H3 (Same.refl _)))
          | code c' =>
            obtain ⟨ev, k0, k1⟩ := he3
            refine ⟨_, rfl, _, rfl, ?_⟩
            rw [decide_eq_false (by rw [ev]; intro z; cases z)]
            refine iteF ⟨_, rfl, _, rfl, .inl ⟨c', ev, k0, k1, true, rfl, iteT (iteF (nxt H3 (Same.refl _)))⟩⟩
          | txt cs =>
            obtain ⟨b, ev, hb, hc, hl2⟩ := he3
            refine ⟨_, rfl, _, rfl, ?_⟩
            rw [decide_eq_false (by rw [ev]; intro z; cases z)]
            refine iteF ⟨_, rfl, _, rfl, .inr (.inr ⟨b, cs.map V.int, ev, hb, false, rfl, iteF ?_⟩)⟩
            exact ⟨_, rfl, b, cs, by rw [ev]; rfl, hb, hc, by omega, fun H4 s4 => ⟨true, rfl, iteF (nxt H4 s4)⟩⟩
      · rintro σ3 H3 ⟨v2, v3, rfl, s3⟩
        have hL3 := hL.same (ExtN.same s3)
        refine ⟨_, rfl, tabs_same hTb (s2.trans s3), fun f' c' H4 x1 t1 n1 l1 l2 => ?_⟩
        have hL4 := hL3.same x1
        refine ⟨p1, f', c', ts, prs.map (·.1), rfl, rfl, l1, l2, SqL.of hL4.lst, by rw [List.length_map, hL.len], fun j t k h1 h2 => ?_, fun ps p hp hs np => ?_⟩
        · rw [List.getElem?_map] at h2
          cases z : prs[j]? with
          | none => rw [z] at h2; cases h2
          | some q' =>
            rw [z] at h2
            have e : q'.1 = k := Option.some.inj h2
            subst e
            exact ⟨_, SqT.of (hL4.at_ j t q' h1 z)⟩
        · have ez : (prs.map (·.1)).zip ts = (prs.zip ts).map fun z => (z.1.1, z.2) := zip_fst prs ts
          obtain ⟨Z, hZ, rfl⟩ := perm_map_inv hp (prs.zip ts) ez
          have hpr : (Z.map (·.1)).Perm prs := by
            have e := hZ.map (·.1)
            rw [List.map_fst_zip (by rw [hL.len]; exact Nat.le_refl _)] at e
            exact e
          refine q _ p (Z.map (·.2)) (Z.map (·.1)) ?_ ?_ hpr ?_ ⟨?_, by rw [List.length_map, List.length_map], fun j t q' h1 h2 => ?_⟩
          · exact LamX.ExtN.trans (ExtN.same (s2.trans s3)) (LamX.ExtN.trans x1 (ExtN.same (Same.upd np)))
          · exact tabs_same t1 (Same.upd np)
          · rw [List.pairwise_map] at hs ⊢
            exact hs
          · rw [upd_same, List.map_map, List.map_map]
            rfl
          · rw [List.getElem?_map] at h1 h2
            cases z : Z[j]? with
            | none => rw [z] at h1; cases h1
            | some y =>
              rw [z] at h1 h2
              have e1 : y.2 = t := Option.some.inj h1
              have e2 : y.1 = q' := Option.some.inj h2
              have hm : y ∈ prs.zip ts := hZ.mem_iff.mp (List.mem_of_getElem? z)
              obtain ⟨j2, hj2⟩ := List.mem_iff_getElem?.mp hm
              rw [List.getElem?_zip_eq_some] at hj2
              have h5 := hL4.at_ j2 y.2 y.1 hj2.2 hj2.1
              rw [e1, e2] at h5
              rw [upd_ne (ne_of_none h5 np)]
              exact h5
end K58


set_option Elab.async false
set_option linter.all false
set_option maxRecDepth 100000
set_option maxHeartbeats 8000000
namespace K58
open PySem PySem.Spec PyProof.Rows L2
variable {P : Program} {w : World} {K : PySem.W.Frag} {mg : Str → Option Value} {base : Heap} {f : Addr} {fd : FuncData}
def tDead : TT := fun _ _ _ => False
theorem pt_dead {X : Cx} {e : Expr} : PT X e tDead := ⟨fun _ _ _ _ _ _ h => h.elim⟩
theorem EntAt.fn {H : Hp} {v : V} {e e' : Ent} (h : EntAt H v e) (h' : EntAt H v e') : e.cs = e'.cs := by
  have inj : ∀ a b : List Int, a.map V.int = b.map V.int → a = b := fun a b z => by
    induction a generalizing b with
    | nil => cases b with
      | nil => rfl
      | cons _ _ => cases z
    | cons x a ih => cases b with
      | nil => cases z
      | cons y b =>
        injection z with z1 z2
        rw [V.int.inj z1, ih b z2]
  cases e with
  | hole =>
    cases e' with
    | hole => rfl
    | code c => have := (h : v = .non).symm.trans h'.1; cases this
    | txt cs => obtain ⟨a, e, _⟩ := h'; have := (h : v = .non).symm.trans e; cases this
  | code c =>
    cases e' with
    | hole => have := h.1.symm.trans (h' : v = .non); cases this
    | code c' => have := h.1.symm.trans h'.1; injection this with z; rw [z]
    | txt cs => obtain ⟨a, e, _⟩ := h'; have := h.1.symm.trans e; cases this
  | txt cs =>
    obtain ⟨a, e, ho, _⟩ := h
    cases e' with
    | hole => have := e.symm.trans (h' : v = .non); cases this
    | code c' => have := e.symm.trans h'.1; cases this
    | txt cs' =>
      obtain ⟨a', e2, ho2, _⟩ := h'
      have ea := V.ref.inj (e.symm.trans e2)
      subst ea
      refine inj _ _ ?_
      rcases ho with ho | ho <;> rcases ho2 with ho2 | ho2
      · rw [ho] at ho2
        injection ho2 with z
        injection z
      · rw [ho] at ho2; cases ho2
      · rw [ho] at ho2; cases ho2
      · rw [ho] at ho2
        injection ho2 with z
        injection z
theorem GoodP.perm {H : Hp} {p q : List (Int × V)} (h : GoodP H p) (pm : q.Perm p) : GoodP H q :=
  ⟨by rw [pm.length_eq]; exact h.len, (pm.map _).nodup_iff.mpr h.nd, fun x hx => h.ok x (pm.mem_iff.mp hx)⟩
theorem GoodP.ext {H H' : Hp} {p : List (Int × V)} (h : GoodP H p) (x : LamX.ExtN H H') : GoodP H' p :=
  ⟨h.len, h.nd, fun q hq => by
    obtain ⟨a, b, e, he⟩ := h.ok q hq
    exact ⟨a, b, e, he.ext x⟩⟩
/-- back is the way back of the pairs -/
structure IsG (prs : List (Int × V)) (back : List (Int × Int)) : Prop where
  nd : (back.map (·.1)).Nodup
  len : back.length ≤ 256
  mem : ∀ c o, (c, o) ∈ back ↔ G prs c o
theorem codesL_len (l : List (Int × V)) : (codesL l).length ≤ l.length := List.length_filterMap_le _ _
theorem take_all {α : Type} (l : List α) : l.take l.length = l := List.take_length
theorem sc_way_back : FnScope ["table", "octet", "entry"] ["table"] (defScope s_way_back) := ⟨rfl, rfl, rfl, by decide +kernel, rfl, by decide +kernel, by decide +kernel⟩
def spBack (T : List (Addr × Str)) : Sp := fun vs H Q _ => ∃ (a : Addr) (prs : List (Int × V)), vs = [.ref a] ∧ TabAt H a prs ∧ GoodP H prs ∧ LamX.Tabs T H ∧
  ∀ (H' : Hp) (p : Addr) (back : List (Int × Int)), LamX.ExtN H H' → LamX.Tabs T H' → H' p = some (.dK (mapB back)) → IsG prs back → Q (.ref p) H'
theorem ok_way_back {T : List (Addr × Str)} (F : FD K d_way_back f fd) (g : mg "way_back" = some (.ref f)) (M : Mo mg) (CE : Cal P w K mg base "entries_of" 3 ["table"] [] (spEnt T)) (CC : Cal P w K mg base "is_code" 2 ["thing"] [] (spIn 1114111)) :
    Cal P w K mg base "way_back" 4 ["table"] [] (spBack T) := by
  refine cal0 F g (ok0 F sc_way_back (fun vs H Q E h => ?_) fun cdv A outer s H vs Q E ec hr h => ?_) fun _ _ _ _ _ _ us hl => match us, hl with | [_], _ => rfl
  · obtain ⟨a, prs, rfl, _⟩ := h
    rfl
  · obtain ⟨a, prs, rfl, hT, hG, hTb, q⟩ := h
    have hr2 := hr.mono (by decide : 2 ≤ 3)
    refine ⟨_, pss_one (ps_ret (pe_dc (own := [("octet", 1), ("entry", 2)]) (g := gTup K 2 (gCons (gName 1) (gCons (gName 2) gNil))) (tt := tB (tCall (spIn 1114111) [] E0 (tCons (tVar 2) tNil))) rfl sc_way_back.nd (pi_list (pe_c CE hr (pa_cons (pv 0) pa_nil)))
      (blkOk_by (N := ["table", "octet", "entry"]) (sc := defScope s_way_back) (by decide +kernel)) (fun _ _ _ _ _ => pg_tup rfl (pgs_cons (pg_name (i := 1) sc_way_back.nd rfl (.inl rfl)) (pgs_cons (pg_name (i := 2) sc_way_back.nd rfl (.inl rfl)) pgs_nil)))
      (fun _ _ _ _ _ => pts_one (pt_val (pe_c CC hr2 (pa_cons (pv 2) pa_nil)))) (fun _ _ _ _ _ => pv 2) (fun _ _ _ _ _ => pv 1))), ?_⟩
    refine ⟨_, rfl, a, prs, rfl, hT, hG, hTb, fun H1 p ts srt x1 t1 hp hs hL => ?_⟩
    refine ⟨p, rfl, ⟨_, SqL.of hL.lst⟩, fun D hD => ?_⟩
    have hG1 : GoodP H1 srt := (hG.ext x1).perm hp
    refine R58.dc_list (K := K) (a := p) (xs := ts.map V.ref) (fun i H2 => Same H1 H2 ∧ ∃ back, IsB (codesL (srt.take i)) back ∧ H2 D = some (.dK (mapB back))) ⟨Same.upd hD, [], IsB.nil, upd_same⟩ (fun i H2 _ h => SqL.of (h.1 _ _ hL.lst)) ?_ ?_
    · rintro i x H2 hi ⟨s2, back, hb, hD2⟩
      rw [List.getElem?_map] at hi
      cases z : ts[i]? with
      | none => rw [z] at hi; cases hi
      | some t =>
        rw [z] at hi
        have ex : V.ref t = x := Option.some.inj hi
        subst ex
        have hlt : i < srt.length := by
          rw [← hL.len]
          exact (List.getElem?_eq_some_iff.mp z).1
        cases hq : srt[i]? with
        | none => rw [List.getElem?_eq_getElem hlt] at hq; cases hq
        | some q' =>
          obtain ⟨o, v⟩ := q'
          have ht := s2 _ _ (hL.at_ i t _ z hq)
          obtain ⟨h0, h1, e, he⟩ := hG1.ok _ (List.mem_of_getElem? hq)
          have he3 : EntAt H2 v e := he.ext (ExtN.same s2)
          refine ⟨t, _, rfl, SqT.of ht, rfl, _, _, rfl, _, _, rfl, rfl, rfl, ?_⟩
          have skip : codeOf (o, v) = none → Same H1 H2 ∧ ∃ back, IsB (codesL (srt.take (i + 1))) back ∧ H2 D = some (.dK (mapB back)) := fun z => by
            refine ⟨s2, back, ?_, hD2⟩
            rw [codesL_take hq, z]
            show IsB (codesL (srt.take i) ++ []) back
            rw [List.append_nil]
            exact hb
          cases e with
          | hole =>
            have ev : v = V.non := he3
            exact ⟨_, rfl, _, rfl, .inr (.inl ⟨ev, false, rfl, iteF (skip (by rw [ev]; rfl))⟩)⟩
          | code c' =>
            obtain ⟨ev, k0, k1⟩ := he3
            subst ev
            refine ⟨_, rfl, _, rfl, .inl ⟨c', rfl, k0, k1, true, rfl, ?_⟩⟩
            refine iteT ?_
            have hl := hb.len
            have hl2 := codesL_len (srt.take i)
            have hl3 := hG1.len
            rw [List.length_take] at hl2
            refine ⟨_, rfl, _, rfl, mapB back, Sum.inl c', rfl, hD2, ?_, ?_, putB back c' o, ?_, ?_⟩
            · unfold mapB
              rw [List.length_map, sizeLine_eq]
              omega
            · have nD := (ExtN.same s2 : LamX.ExtN H1 H2)
              exact fun b u e => by rw [upd_ne (ne_of_none e hD)]; exact s2 _ _ e
            · rw [codesL_take hq]
              exact hb.step (asc_take hs hq)
            · rw [upd_same, putK_mapB]
          | txt cs =>
            obtain ⟨b, ev, hb2, _⟩ := he3
            exact ⟨_, rfl, _, rfl, .inr (.inr ⟨b, cs.map V.int, ev, hb2, false, rfl, iteF (skip (by rw [ev]; rfl))⟩)⟩
    · rintro H2 ⟨s2, back, hb, hD2⟩
      rw [List.length_map, hL.len, take_all] at hb
      refine q H2 D back (LamX.ExtN.trans x1 (ExtN.same s2)) (tabs_same t1 s2) hD2 ⟨hb.nd, ?_, fun c o => ?_⟩
      · have := hb.len
        have := codesL_len srt
        have := hG1.len
        omega
      · rw [hb.g]
        exact ⟨fun g => g.congr (fun o c => hp.mem_iff), fun g => g.congr (fun o c => hp.mem_iff.symm)⟩
end K58


set_option Elab.async false
set_option linter.all false
set_option maxRecDepth 100000
set_option maxHeartbeats 8000000
namespace K58
open PySem PySem.Spec PyProof.Rows L2
variable {P : Program} {w : World} {K : PySem.W.Frag} {mg : Str → Option Value} {base : Heap} {f : Addr} {fd : FuncData}
theorem valV_putI {kvs : List (Key × V)} {o : Int} {v : V} : valV (putK kvs (Sum.inl o) v) (Sum.inl o) = some v := by
  rw [valV_put, if_pos rfl]
theorem valV_putN {kvs : List (Key × V)} {o o' : Int} {v : V} (h : o' ≠ o) : valV (putK kvs (Sum.inl o) v) (Sum.inl o') = valV kvs (Sum.inl o') := by
  rw [valV_put, if_neg (fun z => h (Sum.inl.inj z))]
theorem sc_checked_table : FnScope ["table", "found", "octet", "entry"] ["table"] (defScope s_checked_table) := ⟨rfl, rfl, rfl, by decide +kernel, rfl, by decide +kernel, by decide +kernel⟩
def spTab (T : List (Addr × Str)) : Sp := fun vs H Q _ => ∃ (a : Addr) (prs : List (Int × V)), vs = [.ref a] ∧ TabAt H a prs ∧ GoodP H prs ∧ LamX.Tabs T H ∧
  ∀ (H' : Hp) (p : Addr), LamX.ExtN H H' → LamX.Tabs T H' → DTab H' p (RT H prs) → Q (.ref p) H'
/-- all but the object at d stays -/
def But (d : Addr) (H H' : Hp) : Prop := ∀ b o, H b = some o → b ≠ d → H' b = some o
theorem But.refl (d : Addr) (H : Hp) : But d H H := fun _ _ h _ => h
theorem But.trans {d : Addr} {H H1 H2 : Hp} (a : But d H H1) (b : But d H1 H2) : But d H H2 := fun c o h n => b c o (a c o h n) n
theorem But.same {d : Addr} {H H' : Hp} (s : Same H H') : But d H H' := fun b o h _ => s b o h
theorem But.upd {d : Addr} {H : Hp} {o : HO} : But d H (L2.upd H d o) := fun b u e n => by rw [upd_ne n]; exact e
theorem EntAt.but {d : Addr} {H H' : Hp} {v : V} {e : Ent} (h : EntAt H v e) (x : But d H H') (hd : ∀ xs, H d ≠ some (.lst xs) ∧ H d ≠ some (.tup xs)) : EntAt H' v e := by
  cases e with
  | hole => exact h
  | code c => exact h
  | txt cs =>
    obtain ⟨a, e1, e2, e3⟩ := h
    have na : a ≠ d := fun z => by
      subst z
      rcases e2 with e2 | e2
      · exact (hd _).1 e2
      · exact (hd _).2 e2
    exact ⟨a, e1, e2.elim (fun z => .inl (x _ _ z na)) (fun z => .inr (x _ _ z na)), e3⟩
theorem ok_checked_table {T : List (Addr × Str)} (F : FD K d_checked_table f fd) (g : mg "checked_table" = some (.ref f)) (M : Mo mg) (CE : Cal P w K mg base "entries_of" 3 ["table"] [] (spEnt T)) (CC : Cal P w K mg base "is_code" 2 ["thing"] [] (spIn 1114111)) :
    Cal P w K mg base "checked_table" 4 ["table"] [] (spTab T) := by
  refine cal0 F g (ok0 F sc_checked_table (fun vs H Q E h => ?_) fun cdv A outer s H vs Q E ec hr h => ?_) fun _ _ _ _ _ _ us hl => match us, hl with | [_], _ => rfl
  · obtain ⟨a, prs, rfl, _⟩ := h
    rfl
  · obtain ⟨a, prs, rfl, hT, hG, hTb, q⟩ := h
    have hr2 := hr.mono (by decide : 2 ≤ 3)
    have hu1 := hu_of hr
    refine ⟨_, pss_cons (ps_set (i := 1) sc_checked_table.nd rfl (.inl rfl) pe_dnewK)
      (pss_cutK (ps_for PassesOwn.never rfl (pi_list (pe_c CE hr (pa_cons (pv 0) pa_nil))) (pg_tup rfl (pgs_cons (pg_name (i := 2) sc_checked_table.nd rfl (.inl rfl)) (pgs_cons (pg_name (i := 3) sc_checked_table.nd rfl (.inl rfl)) pgs_nil)))
        (pss_one (ps_if (pt_cmp (pc_notN (pv 3)) rfl) (pss_one (ps_dput hu1 (pv 1) (pv 2) (pe_ifExp (pt_val (pe_c CC hr2 (pa_cons (pv 3) pa_nil))) (pe_tup (pa_cons (pv 3) pa_nil)) (pe_callTy call_tuple_of (by rfl) M.tuple b_tuple (pa_cons (pv 3) pa_nil))) (by rfl))) pss_nil)))
      (pss_one (ps_ret (pv 1)))), ?_⟩
    intro D nD
    have s0 : Same H (upd H D (.dK [])) := Same.upd nD
    refine ⟨fun σ' H' => ∃ v2 v3, σ' = [some (.ref a), some (.ref D), v2, v3] ∧ LamX.ExtN H H' ∧ LamX.Tabs T H' ∧ DTab H' D (RT H prs), ?_, ?_⟩
    · have hT' : TabAt (upd H D (.dK [])) a prs := by
        rcases hT with ⟨es, h, e⟩ | h
        · exact .inl ⟨es, h.elim (fun z => .inl (s0 _ _ z)) (fun z => .inr (s0 _ _ z)), e⟩
        · exact .inr (s0 _ _ h)
      refine ⟨_, rfl, a, prs, rfl, hT', hG.ext (ExtN.same s0), tabs_same hTb s0, fun H1 p ts srt x1 t1 hp hs hL => ?_⟩
      have x01 : LamX.ExtN H H1 := LamX.ExtN.trans (ExtN.same s0) x1
      have hG1 : GoodP H1 srt := (hG.ext x01).perm hp
      have hD1 : H1 D = some (.dK []) := x1 _ _ upd_same (fun _ q => by cases q)
      refine ⟨p, rfl, ⟨_, SqL.of hL.lst⟩, for_list (K := K) (a := p) (xs := ts.map V.ref) (fun i σ3 H3 => ∃ v2 v3, σ3 = [some (.ref a), some (.ref D), v2, v3] ∧ But D H1 H3 ∧ ∃ kvs : List (Key × V), H3 D = some (.dK kvs) ∧ kvs.length ≤ i ∧
        ∀ (j : Nat) (o : Int) (v : V) (e : Ent), j < i → srt[j]? = some (o, v) → EntAt H1 v e → v ≠ .non → ∃ t, valV kvs (Sum.inl o) = some (.ref t) ∧ H3 t = some (.tup (e.cs.map V.int))) ?_ ?_ ?_ ?_⟩
      · exact ⟨_, _, rfl, But.refl _ _, [], hD1, Nat.le_refl _, fun j o v e hj => by omega⟩
      · rintro i σ3 H3 _ ⟨_, _, _, b3, _⟩
        exact SqL.of (b3 _ _ hL.lst (ne_of hL.lst hD1 (by intro z; cases z)))
      · rintro i x σ3 H3 hi ⟨v2, v3, rfl, b3, kvs, hD3, hl3, hat⟩
        rw [List.getElem?_map] at hi
        cases z : ts[i]? with
        | none => rw [z] at hi; cases hi
        | some t =>
          rw [z] at hi
          have ex : V.ref t = x := Option.some.inj hi
          subst ex
          have hlt : i < srt.length := by
            rw [← hL.len]
            exact (List.getElem?_eq_some_iff.mp z).1
          cases hq : srt[i]? with
          | none => rw [List.getElem?_eq_getElem hlt] at hq; cases hq
          | some q' =>
            obtain ⟨o, v⟩ := q'
            have ht1 := hL.at_ i t _ z hq
            have ht := b3 _ _ ht1 (ne_of ht1 hD1 (by intro z; cases z))
            obtain ⟨h0, h1, e, he⟩ := hG1.ok _ (List.mem_of_getElem? hq)
            have he3 : EntAt H3 v e := he.but b3 (fun xs => ⟨fun z => (by rw [hD1] at z; cases z), fun z => (by rw [hD1] at z; cases z)⟩)
            have fin : ∀ (H4 : Hp) (t4 : Addr), Same H3 H4 → H4 t4 = some (.tup (e.cs.map V.int)) → v ≠ .non →
                DPut H4 D (.int o) (.ref t4) (upd H4 D (.dK (putK kvs (Sum.inl o) (.ref t4)))) ∧ (∃ v2 v3, ([some (V.ref a), some (V.ref D), some (V.int o), some v] : List (Option V)) = [some (.ref a), some (.ref D), v2, v3] ∧ But D H1 (upd H4 D (.dK (putK kvs (Sum.inl o) (.ref t4)))) ∧ ∃ kvs' : List (Key × V), (upd H4 D (.dK (putK kvs (Sum.inl o) (.ref t4)))) D = some (.dK kvs') ∧ kvs'.length ≤ i + 1 ∧
                ∀ (j : Nat) (o5 : Int) (v : V) (e : Ent), j < i + 1 → srt[j]? = some (o5, v) → EntAt H1 v e → v ≠ .non → ∃ t, valV kvs' (Sum.inl o5) = some (.ref t) ∧ (upd H4 D (.dK (putK kvs (Sum.inl o) (.ref t4)))) t = some (.tup (e.cs.map V.int))) := by
              intro H4 t4 s4 h4 hn
              have hD4 : H4 D = some (.dK kvs) := s4 _ _ hD3
              have hlen := hG1.len
              refine ⟨DPut.k (k := Sum.inl o) hD4 (by rw [sizeLine_eq]; omega), _, _, rfl, (b3.trans (But.same s4)).trans But.upd, _, upd_same, ?_, ?_⟩
              · have := DSub.putK_len kvs (Sum.inl o) (V.ref t4)
                omega
              · intro j o' v' e' hj hj2 he' hn'
                by_cases hji : j = i
                · subst hji
                  rw [hq] at hj2
                  cases hj2
                  refine ⟨t4, valV_putI, ?_⟩
                  rw [upd_ne (ne_of h4 hD4 (by intro z; cases z)), h4, he.fn he']
                · have hlt2 : j < i := by omega
                  obtain ⟨t', e1, e2⟩ := hat j o' v' e' hlt2 hj2 he' hn'
                  have no : o' ≠ o := fun z => by
                    subst z
                    have nd := hG1.nd
                    have a1 : (srt.map (·.1))[j]? = some o' := by rw [List.getElem?_map, hj2]; rfl
                    have a2 : (srt.map (·.1))[i]? = some o' := by rw [List.getElem?_map, hq]; rfl
                    obtain ⟨l1, g1⟩ := List.getElem?_eq_some_iff.mp a1
                    obtain ⟨l2, g2⟩ := List.getElem?_eq_some_iff.mp a2
                    exact (List.pairwise_iff_getElem.mp nd j i l1 l2 hlt2) (g1.trans g2.symm)
                  refine ⟨t', ?_, ?_⟩
                  · rw [valV_putN no]
                    exact e1
                  · have e3 := s4 _ _ e2
                    rw [upd_ne (ne_of e3 hD4 (by intro z; cases z))]
                    exact e3
            refine ⟨t, _, rfl, SqT.of ht, rfl, _, _, rfl, _, _, rfl, rfl, _, rfl, _, rfl, ?_⟩
            cases e with
            | hole =>
              have ev : v = V.non := he3
              subst ev
              refine iteF ⟨_, _, rfl, b3, kvs, hD3, by omega, fun j o' v' e' hj hj2 he' hn' => ?_⟩
              by_cases hji : j = i
              · subst hji
                rw [hq] at hj2
                cases hj2
                exact absurd rfl hn'
              · exact hat j o' v' e' (by omega) hj2 he' hn'
            | code c' =>
              obtain ⟨ev, k0, k1⟩ := he3
              subst ev
              refine iteT ?_
              refine ⟨_, rfl, _, rfl, .inl ⟨c', rfl, k0, k1, true, rfl, iteT ?_⟩⟩
              refine ⟨_, rfl, by show 1 ≤ sizeLine; decide, fun t4 nt4 => ?_⟩
              obtain ⟨f1, f2⟩ := fin _ t4 (Same.upd nt4) upd_same (by intro z; cases z)
              exact ⟨_, rfl, _, rfl, D, _, rfl, f1, f2⟩
            | txt cs =>
              obtain ⟨b, ev, hb2, _⟩ := he3
              subst ev
              refine iteT ?_
              refine ⟨_, rfl, _, rfl, .inr (.inr ⟨b, cs.map V.int, rfl, hb2, false, rfl, iteF ?_⟩)⟩
              refine ⟨_, rfl, b, cs.map V.int, rfl, ?_⟩
              rcases hb2 with hb2 | hb2
              · refine .inl ⟨SqL.of hb2, fun t4 nt4 => ?_⟩
                obtain ⟨f1, f2⟩ := fin _ t4 (Same.upd nt4) upd_same (by intro z; cases z)
                exact ⟨_, rfl, _, rfl, D, _, rfl, f1, f2⟩
              · refine .inr ⟨SqT.of hb2, ?_⟩
                obtain ⟨f1, f2⟩ := fin _ b (Same.refl _) hb2 (by intro z; cases z)
                exact ⟨_, rfl, _, rfl, D, _, rfl, f1, f2⟩
      · rintro σ3 H3 ⟨v2, v3, rfl, b3, kvs, hD3, hl3, hat⟩
        have x3 : LamX.ExtN H H3 := fun b o hb n => b3 _ _ (x01 _ _ hb n) (fun z => by subst z; rw [nD] at hb; cases hb)
        refine ⟨v2, v3, rfl, x3, ?_, kvs, hD3, ?_⟩
        · intro p hp
          obtain ⟨ps, e1, e2⟩ := t1 p hp
          exact ⟨ps, b3 _ _ e1 (ne_of e1 hD1 (by intro z; cases z)), e2.1, fun pos cv hc => by
            obtain ⟨c, e3, e4⟩ := e2.2 pos cv hc
            exact ⟨c, e3, b3 _ _ e4 (ne_of e4 hD1 (by intro z; cases z))⟩⟩
        · rintro o l ⟨v, e, hm, he, hn, rfl⟩
          obtain ⟨j, hj⟩ := List.mem_iff_getElem?.mp (hp.mem_iff.mpr hm)
          exact hat j o v e (by rw [List.length_map, hL.len]; exact (List.getElem?_eq_some_iff.mp hj).1) hj (he.ext x01) hn
    · rintro σ' H' ⟨v2, v3, rfl, x, t, d⟩
      exact ⟨_, rfl, q H' D x t d⟩
end K58


set_option Elab.async false
set_option linter.all false
set_option maxRecDepth 100000
set_option maxHeartbeats 8000000
namespace K58
open PySem PySem.Spec PyProof.Rows L2
variable {P : Program} {w : World} {K : PySem.W.Frag} {mg : Str → Option Value} {base : Heap} {f : Addr} {fd : FuncData}
theorem sc_checked_back : FnScope ["back", "found", "code", "entry"] ["back"] (defScope s_checked_back) := ⟨rfl, rfl, rfl, by decide +kernel, rfl, by decide +kernel, by decide +kernel⟩
def spCB : Sp := fun vs H Q _ => ∃ (d : Addr) (back : List (Int × Int)), vs = [.ref d] ∧ H d = some (.dK (mapB back)) ∧ (back.map (·.1)).Nodup ∧ back.length ≤ 256 ∧ (∀ q ∈ back, 0 ≤ q.1 ∧ q.1 ≤ 1114111 ∧ 0 ≤ q.2 ∧ q.2 ≤ 255) ∧
  ∀ (H' : Hp) (p : Addr), Same H H' → DTab H' p (fun c l => ∃ o, (c, o) ∈ back ∧ l = [o]) → Q (.ref p) H'
theorem ok_checked_back (F : FD K d_checked_back f fd) (g : mg "checked_back" = some (.ref f)) (M : Mo mg) (CO : Cal P w K mg base "is_octet" 2 ["thing"] [] (spIn 255)) (CC : Cal P w K mg base "is_code" 2 ["thing"] [] (spIn 1114111)) :
    Cal P w K mg base "checked_back" 3 ["back"] [] spCB := by
  refine cal0 F g (ok0 F sc_checked_back (fun vs H Q E h => ?_) fun cdv A outer s H vs Q E ec hr h => ?_) fun _ _ _ _ _ _ us hl => match us, hl with | [_], _ => rfl
  · obtain ⟨a, prs, rfl, _⟩ := h
    rfl
  · obtain ⟨d, back, rfl, hd, nd, hl, hok, q⟩ := h
    have hu1 := hu_of hr
    refine ⟨_, pss_cons (ps_if (pt_not (pt_val (pe_callB call_isi (by rfl) M.isi b_isi (pa_cons (pv 0) (pa_cons (pe_bltn (v := .ty "dict") (by rfl) M.dict b_dict rfl) pa_nil))))) pss_never pss_nil)
      (pss_cons (ps_set (i := 1) sc_checked_back.nd rfl (.inl rfl) pe_dnewK)
      (pss_cutK (ps_lock (ps_for PassesOwn.never rfl (pi_keys (pv 0)) (pg_name (i := 2) sc_checked_back.nd rfl (.inl rfl))
        (pss_cons (ps_set (i := 3) sc_checked_back.nd rfl (.inl rfl) (pe_dget hu1 (pv 0) (pv 2) (fun _ _ => rfl)))
        (pss_cons (ps_if (PW.pt (pw_or (pt_not (pt_val (pe_c CC hr (pa_cons (pv 2) pa_nil)))) (pw_or1 (pt_not (PW.pt (pw_or (pt_cmp (pc_isN (pv 3)) rfl) (pw_or (pt_val (pe_c CO hr (pa_cons (pv 3) pa_nil))) (pw_or1 pt_dead)))))))) pss_never pss_nil)
        (pss_one (ps_if (pt_cmp (pc_notN (pv 3)) rfl) (pss_one (ps_dput hu1 (pv 1) (pv 2) (pe_ifExp (pt_val (pe_c CO hr (pa_cons (pv 3) pa_nil))) (pe_tup (pa_cons (pv 3) pa_nil)) (pe_callTy call_tuple_of (by rfl) M.tuple b_tuple (pa_cons (pv 3) pa_nil))) (by rfl))) pss_nil))))))
      (pss_one (ps_ret (pv 1))))), ?_⟩
    refine ⟨_, rfl, _, _, _, _, true, rfl, .ty "dict", .base (.dK hd), kit_ty (by decide +kernel), true, rfl, iteF ?_⟩
    intro D nD
    have s0 : Same H (upd H D (.dK [])) := Same.upd nD
    have hd0 := s0 _ _ hd
    have ndD : d ≠ D := ne_of_none hd nD
    refine ⟨fun σ' H' => ∃ v2 v3, σ' = [some (.ref d), some (.ref D), v2, v3] ∧ Same H H' ∧ DTab H' D (fun c l => ∃ o, (c, o) ∈ back ∧ l = [o]), ?_, ?_⟩
    · refine ⟨d, _, hd0, trivial, fun od => ?_⟩
      refine ⟨_, rfl, d, od, rfl, .inl ⟨_, upd_same, for_it (walk_keys (d := d) (o := od) (kvs := mapB back))
        (fun i σ3 H3 => ∃ v2 v3, σ3 = [some (.ref d), some (.ref D), v2, v3] ∧ But D (upd (upd H D (.dK [])) d (.frz od (.dK (mapB back)))) H3 ∧ ∃ kvs : List (Key × V), H3 D = some (.dK kvs) ∧ kvs.length ≤ i ∧
          ∀ (j : Nat) (c5 o5 : Int), j < i → back[j]? = some (c5, o5) → ∃ t, valV kvs (Sum.inl c5) = some (.ref t) ∧ H3 t = some (.tup [V.int o5])) ?_ ?_ ?_ ?_⟩⟩
      · exact ⟨_, _, rfl, But.refl _ _, [], by rw [upd_ne (Ne.symm ndD)]; exact upd_same, Nat.le_refl _, fun j c o hj => by omega⟩
      · rintro i σ3 H3 _ ⟨_, _, _, b3, _⟩
        exact b3 _ _ upd_same ndD
      · rintro i x σ3 H3 H4 hi ⟨v2, v3, rfl, b3, kvs, hD3, hl3, hat⟩ ⟨rfl, k, v, hk, rfl⟩
        unfold mapB at hk
        rw [List.getElem?_map] at hk
        cases z : back[i]? with
        | none => rw [z] at hk; cases hk
        | some q' =>
          obtain ⟨c, o⟩ := q'
          rw [z] at hk
          have e : ((Sum.inl c : Key), V.int o) = (k, v) := Option.some.inj hk
          injection e with e1 e2
          subst e1 e2
          have hdz : H4 d = some (.frz od (.dK (mapB back))) := b3 _ _ upd_same ndD
          have hm := List.mem_of_getElem? z
          obtain ⟨k0, k1, k2, k3⟩ := hok _ hm
          have hv : valV (mapB back) (Sum.inl c) = some (.int o) := valV_mapB nd hm
          refine ⟨_, rfl, _, rfl, d, .int o, rfl, .inl ⟨_, Sum.inl c, .inr ⟨od, hdz⟩, rfl, hv.symm⟩, ?_⟩
          refine ⟨_, rfl, _, rfl, .inl ⟨c, rfl, k0, k1, true, rfl, iteF ?_⟩⟩
          refine ⟨_, rfl, _, rfl, ?_⟩
          refine iteF ⟨_, rfl, _, rfl, .inl ⟨o, rfl, k2, k3, true, rfl, iteT (iteF ?_)⟩⟩
          refine ⟨_, rfl, _, rfl, iteT ?_⟩
          refine ⟨_, rfl, _, rfl, .inl ⟨o, rfl, k2, k3, true, rfl, iteT ?_⟩⟩
          refine ⟨_, rfl, by show 1 ≤ sizeLine; decide, fun t4 nt4 => ?_⟩
          have nDt : D ≠ t4 := ne_of_none hD3 nt4
          refine ⟨_, rfl, _, rfl, D, _, rfl, DPut.k (k := Sum.inl c) (by rw [upd_ne nDt]; exact hD3) (by rw [sizeLine_eq]; have := (List.getElem?_eq_some_iff.mp z).1; omega), _, _, rfl, (b3.trans (But.same (Same.upd nt4))).trans But.upd, _, upd_same, ?_, ?_⟩
          · have := DSub.putK_len kvs (Sum.inl c) (V.ref t4)
            omega
          · intro j c5 o5 hj hj2
            by_cases hji : j = i
            · subst hji
              rw [z] at hj2
              cases hj2
              exact ⟨t4, valV_putI, by rw [upd_ne (Ne.symm nDt), upd_same]⟩
            · have hlt2 : j < i := by omega
              obtain ⟨t', e1, e2⟩ := hat j c5 o5 hlt2 hj2
              have no : c5 ≠ c := fun zz => by
                subst zz
                have a1 : (back.map (·.1))[j]? = some c5 := by rw [List.getElem?_map, hj2]; rfl
                have a2 : (back.map (·.1))[i]? = some c5 := by rw [List.getElem?_map, z]; rfl
                obtain ⟨l1, g1⟩ := List.getElem?_eq_some_iff.mp a1
                obtain ⟨l2, g2⟩ := List.getElem?_eq_some_iff.mp a2
                exact (List.pairwise_iff_getElem.mp nd j i l1 l2 hlt2) (g1.trans g2.symm)
              exact ⟨t', by rw [valV_putN no]; exact e1, by rw [upd_ne (ne_of e2 hD3 (by intro z; cases z)), upd_ne (ne_of_none e2 nt4)]; exact e2⟩
      · rintro σ3 H3 ⟨v2, v3, rfl, b3, kvs, hD3, hl3, hat⟩
        have hdz : H3 d = some (.frz od (.dK (mapB back))) := b3 _ _ upd_same ndD
        refine ⟨hdz, v2, v3, rfl, fun b u hb => ?_, kvs, ?_, ?_⟩
        · by_cases e : b = d
          · subst e
            rw [upd_same]
            rw [hd] at hb
            exact hb
          · rw [upd_ne e]
            exact b3 _ _ (by rw [upd_ne e]; exact s0 _ _ hb) (ne_of_none hb nD)
        · rw [upd_ne (Ne.symm ndD)]
          exact hD3
        · rintro c l ⟨o, hm, rfl⟩
          obtain ⟨j, hj⟩ := List.mem_iff_getElem?.mp hm
          obtain ⟨t, e1, e2⟩ := hat j c o (by unfold mapB; rw [List.length_map]; exact (List.getElem?_eq_some_iff.mp hj).1) hj
          exact ⟨t, e1, by rw [upd_ne (ne_of e2 hdz (by intro z; cases z))]; exact e2⟩
    · rintro σ' H' ⟨v2, v3, rfl, x, t⟩
      exact ⟨_, rfl, q H' D x t⟩
end K58


set_option Elab.async false
set_option linter.all false
set_option maxRecDepth 100000
set_option maxHeartbeats 8000000
namespace K58
open PySem PySem.Spec PyProof.Rows L2
variable {P : Program} {w : World} {K : PySem.W.Frag} {mg : Str → Option Value} {base : Heap} {f : Addr} {fd : FuncData}
/-- item by item -/
def Fa (g : Int → List Int → Prop) (cs : List Int) (ls : List (List Int)) : Prop := cs.length = ls.length ∧ ∀ (i : Nat) (c : Int) (l : List Int), cs[i]? = some c → ls[i]? = some l → g c l
theorem flat_take {ls : List (List Int)} {i : Nat} {l : List Int} (h : ls[i]? = some l) : (ls.take (i + 1)).flatten = (ls.take i).flatten ++ l := by
  rw [List.take_add_one, h, List.flatten_append]
  show _ ++ ([l] : List (List Int)).flatten = _
  rw [List.flatten_cons, List.flatten_nil, List.append_nil]
theorem flat_le (ls : List (List Int)) (i : Nat) : (ls.take i).flatten.length ≤ ls.flatten.length := by
  have e := congrArg (fun z : List (List Int) => z.flatten.length) (List.take_append_drop i ls)
  simp only [List.flatten_append, List.length_append] at e
  omega
theorem sc_write : FnScope ["source", "answers", "back", "found", "place", "end", "error", "word", "codes", "code"] ["source", "answers", "back"] (defScope s_write_charmap) := ⟨rfl, rfl, rfl, by decide +kernel, rfl, by decide +kernel, by decide +kernel⟩
def spWr : Sp := fun vs H Q _ => ∃ (a d : Addr) (ans : V) (g : Int → List Int → Prop) (cs : List Int) (ls : List (List Int)), vs = [.ref a, ans, .ref d] ∧ H a = some (.tup (cs.map V.int)) ∧ DTab H d g ∧ Fa g cs ls ∧ ls.flatten.length ≤ 1000 ∧
  ∀ (H' : Hp) (p : Addr), Same H H' → H' p = some (.tup (ls.flatten.map V.int)) → Q (.ref p) H'
theorem ok_write (F : FD K d_write_charmap f fd) (g : mg "write_charmap" = some (.ref f)) (M : Mo mg) : Cal P w K mg base "write_charmap" 1 ["source", "answers", "back"] [] spWr := by
  refine cal0 F g (ok0 F sc_write (fun vs H Q E h => ?_) fun cdv A outer s H vs Q E ec hr h => ?_) fun _ _ _ _ _ _ us hl => match us, hl with | [_, _, _], _ => rfl
  · obtain ⟨_, _, _, _, _, _, rfl, _⟩ := h
    rfl
  · obtain ⟨a, d, ans, gg, cs, ls, rfl, ha, ⟨kvs, hd, htab⟩, ⟨hlen, hfa⟩, hsz, q⟩ := h
    have hu1 := hu_of hr
    refine ⟨_, pss_cons (ps_par (i := 3) (j := 4) rfl sc_write.nd rfl rfl (by decide) rfl rfl (pa_cons (pe_lst pa_nil) (pa_cons pe_int pa_nil)) (by rfl))
      (pss_cons (ps_while PassesOwn.never (pt_cmpR op_lt (pv 4) (pe_callB call_len_seq (by rfl) M.len PySem.boot_len (pa_cons (pv 0) pa_nil)) (nomark _))
        (pss_cons (ps_set (i := 5) sc_write.nd rfl (.inl rfl) (pv 4))
        (pss_cons (ps_while PassesOwn.never (PW.pt (pw_and (pt_cmpR op_lt (pv 5) (pe_callB call_len_seq (by rfl) M.len PySem.boot_len (pa_cons (pv 0) pa_nil)) (nomark _)) (pw_and1 (pt_cmp (pc_dnotin hu1 (pe_ix ix_tup (pv 0) (pv 5) (fun _ _ => rfl)) (pv 2)) rfl)))) pss_never)
        (pss_one (ps_if (pt_cmpR op_eq (pv 5) (pv 4) (nomark _))
          (pss_cons (ps_expr (pe_bm PySem.F.plainAttrs_list PySem.F.slot_list_extend PySem.F.type_list_extend R58.mt_extT (pv 3) (pa_cons (pe_dget hu1 (pv 2) (pe_ix ix_tup (pv 0) (pv 4) (fun _ _ => rfl)) (fun _ _ => rfl)) pa_nil)))
          (pss_one (ps_aug (i := 4) sc_write.nd rfl (.inl rfl) pe_int ip_add))) pss_never)))))
      (pss_one (ps_ret (pe_callTy call_tuple_of (by rfl) M.tuple b_tuple (pa_cons (pv 3) pa_nil))))), ?_⟩
    refine ⟨by show 0 ≤ sizeLine; decide, fun L nL => ⟨_, _, rfl, ?_⟩⟩
    have s0 : Same H (upd H L (.lst [])) := Same.upd nL
    refine ⟨fun m σ3 H3 => ∃ (i : Nat) (v5 : Option V), m = cs.length - i ∧ i ≤ cs.length ∧ σ3 = [some (.ref a), some ans, some (.ref d), some (.ref L), some (.int i), v5, none, none, none, none] ∧ But L (upd H L (.lst [])) H3 ∧ H3 L = some (.lst ((ls.take i).flatten.map V.int)),
      ⟨_, 0, none, rfl, Nat.zero_le _, rfl, But.refl _ _, upd_same⟩, ?_⟩
    rintro m σ3 H3 ⟨i, v5, rfl, hi, rfl, b3, hL3⟩
    have nLa : a ≠ L := ne_of_none ha nL
    have ha3 := b3 _ _ (s0 _ _ ha) nLa
    refine ⟨_, rfl, _, rfl, a, _, rfl, .inr (SqT.of ha3), _, _, rfl, rfl, _, rfl, ?_⟩
    by_cases hlt : i < cs.length
    · rw [decide_eq_true (by rw [List.length_map]; omega)]
      refine iteT ⟨fun σ' H' => ∃ (v5 : Option V), σ' = [some (.ref a), some ans, some (.ref d), some (.ref L), some (.int (i + 1 : Nat)), v5, none, none, none, none] ∧ But L (upd H L (.lst [])) H' ∧ H' L = some (.lst ((ls.take (i + 1)).flatten.map V.int)), ?_, ?_⟩
      · rintro σ' H' ⟨v5', rfl, b', hL'⟩
        exact ⟨cs.length - (i + 1), by omega, i + 1, v5', rfl, hlt, rfl, b', hL'⟩
      · have hc : cs[i]? = some cs[i] := List.getElem?_eq_getElem hlt
        have hl : ls[i]? = some (ls[i]'(by omega)) := List.getElem?_eq_getElem (by omega)
        obtain ⟨t, ht1, ht2⟩ := htab _ _ (hfa i _ _ hc hl)
        have hci : (cs.map V.int)[i]? = some (.int cs[i]) := by rw [List.getElem?_map, hc]; rfl
        have hd3 := b3 _ _ (s0 _ _ hd) (ne_of_none hd nL)
        have ht3 := b3 _ _ (s0 _ _ ht2) (ne_of_none ht2 nL)
        refine ⟨_, rfl, ?_⟩
        refine ⟨fun _ σ' H' => σ' = [some (.ref a), some ans, some (.ref d), some (.ref L), some (.int i), some (.int i), none, none, none, none] ∧ H' = H3, ⟨0, rfl, rfl⟩, ?_⟩
        rintro _ _ _ ⟨rfl, rfl⟩
        refine ⟨_, rfl, _, rfl, a, _, rfl, .inr (SqT.of ha3), _, _, rfl, rfl, _, rfl, ?_⟩
        rw [decide_eq_true (by rw [List.length_map]; omega)]
        refine iteT ⟨_, rfl, _, rfl, a, _, _, _, rfl, rfl, SqT.of ha3, atI_nat hci, _, rfl, d, _, rfl, DGet.k (k := Sum.inl cs[i]) hd3, _, rfl, ?_⟩
        rw [ht1]
        refine iteF ⟨_, rfl, _, rfl, rfl, _, rfl, ?_⟩
        rw [decide_eq_true rfl]
        refine iteT ⟨_, rfl, .inl ⟨rfl, _, SqL.of hL3⟩, _, rfl, _, rfl, _, rfl, a, _, _, _, rfl, rfl, SqT.of ha3, atI_nat hci, d, V.ref t, rfl, ?_, ?_⟩
        · exact .inl ⟨_, Sum.inl cs[i], .inl hd3, rfl, ht1.symm⟩
        · have hfl := flat_le ls (i + 1)
          rw [flat_take hl, List.length_append] at hfl
          refine ⟨L, t, _, _, rfl, rfl, hL3, SqT.of ht3, by rw [List.length_map, List.length_map, sizeLine_eq]; omega, _, rfl, _, _, rfl, rfl, some (.int i), ?_, b3.trans But.upd, ?_⟩
          · rfl
          · rw [upd_same, flat_take hl, List.map_append]
    · have ei : i = cs.length := by omega
      subst ei
      rw [decide_eq_false (by rw [List.length_map]; omega)]
      refine iteF ⟨_, rfl, L, _, rfl, .inl ⟨SqL.of hL3, fun p np => ?_⟩⟩
      refine q _ p ?_ ?_
      · intro b u hb
        rw [upd_ne (ne_of_none (b3 _ _ (s0 _ _ hb) (ne_of_none hb nL)) np)]
        exact b3 _ _ (s0 _ _ hb) (ne_of_none hb nL)
      · rw [upd_same, hlen, List.take_length]
theorem sc_read : FnScope ["data", "answers", "final", "table", "found", "place", "word", "codes"] ["data", "answers", "final", "table"] (defScope s_read_charmap) := ⟨rfl, rfl, rfl, by decide +kernel, rfl, by decide +kernel, by decide +kernel⟩
def spRd : Sp := fun vs H Q _ => ∃ (a d : Addr) (ans fin : V) (g : Int → List Int → Prop) (cs : List Int) (ls : List (List Int)), vs = [.ref a, ans, fin, .ref d] ∧ H a = some (.tup (cs.map V.int)) ∧ DTab H d g ∧ Fa g cs ls ∧ ls.flatten.length ≤ 1000 ∧
  ∀ (H' : Hp) (p t : Addr) (n : Int), Same H H' → H' p = some (.tup [.ref t, .int n]) → H' t = some (.tup (ls.flatten.map V.int)) → Q (.ref p) H'
theorem ok_read (F : FD K d_read_charmap f fd) (g : mg "read_charmap" = some (.ref f)) (M : Mo mg) : Cal P w K mg base "read_charmap" 1 ["data", "answers", "final", "table"] [] spRd := by
  refine cal0 F g (ok0 F sc_read (fun vs H Q E h => ?_) fun cdv A outer s H vs Q E ec hr h => ?_) fun _ _ _ _ _ _ us hl => match us, hl with | [_, _, _, _], _ => rfl
  · obtain ⟨_, _, _, _, _, _, _, rfl, _⟩ := h
    rfl
  · obtain ⟨a, d, ans, fin, gg, cs, ls, rfl, ha, ⟨kvs, hd, htab⟩, ⟨hlen, hfa⟩, hsz, q⟩ := h
    have hu1 := hu_of hr
    refine ⟨_, pss_cons (ps_par (i := 4) (j := 5) rfl sc_read.nd rfl rfl (by decide) rfl rfl (pa_cons (pe_lst pa_nil) (pa_cons pe_int pa_nil)) (by rfl))
      (pss_cons (ps_while PassesOwn.never (pt_cmpR op_lt (pv 5) (pe_callB call_len_seq (by rfl) M.len PySem.boot_len (pa_cons (pv 0) pa_nil)) (nomark _))
        (pss_one (ps_if (pt_cmp (pc_din hu1 (pe_ix ix_tup (pv 0) (pv 5) (fun _ _ => rfl)) (pv 3)) rfl)
          (pss_cons (ps_expr (pe_bm PySem.F.plainAttrs_list PySem.F.slot_list_extend PySem.F.type_list_extend R58.mt_extT (pv 4) (pa_cons (pe_dget hu1 (pv 3) (pe_ix ix_tup (pv 0) (pv 5) (fun _ _ => rfl)) (fun _ _ => rfl)) pa_nil)))
          (pss_one (ps_aug (i := 5) sc_read.nd rfl (.inl rfl) pe_int ip_add))) pss_never)))
      (pss_one (ps_ret (pe_tup (pa_cons (pe_callTy call_tuple_of (by rfl) M.tuple b_tuple (pa_cons (pv 4) pa_nil)) (pa_cons (pe_callB call_len_seq (by rfl) M.len PySem.boot_len (pa_cons (pv 0) pa_nil)) pa_nil)))))), ?_⟩
    refine ⟨by show 0 ≤ sizeLine; decide, fun L nL => ⟨_, _, rfl, ?_⟩⟩
    have s0 : Same H (upd H L (.lst [])) := Same.upd nL
    refine ⟨fun m σ3 H3 => ∃ (i : Nat), m = cs.length - i ∧ i ≤ cs.length ∧ σ3 = [some (.ref a), some ans, some fin, some (.ref d), some (.ref L), some (.int i), none, none] ∧ But L (upd H L (.lst [])) H3 ∧ H3 L = some (.lst ((ls.take i).flatten.map V.int)),
      ⟨_, 0, rfl, Nat.zero_le _, rfl, But.refl _ _, upd_same⟩, ?_⟩
    rintro m σ3 H3 ⟨i, rfl, hi, rfl, b3, hL3⟩
    have nLa : a ≠ L := ne_of_none ha nL
    have ha3 := b3 _ _ (s0 _ _ ha) nLa
    refine ⟨_, rfl, _, rfl, a, _, rfl, .inr (SqT.of ha3), _, _, rfl, rfl, _, rfl, ?_⟩
    by_cases hlt : i < cs.length
    · rw [decide_eq_true (by rw [List.length_map]; omega)]
      refine iteT ⟨fun σ' H' => σ' = [some (.ref a), some ans, some fin, some (.ref d), some (.ref L), some (.int (i + 1 : Nat)), none, none] ∧ But L (upd H L (.lst [])) H' ∧ H' L = some (.lst ((ls.take (i + 1)).flatten.map V.int)), ?_, ?_⟩
      · rintro σ' H' ⟨rfl, b', hL'⟩
        exact ⟨cs.length - (i + 1), by omega, i + 1, rfl, hlt, rfl, b', hL'⟩
      · have hc : cs[i]? = some cs[i] := List.getElem?_eq_getElem hlt
        have hl : ls[i]? = some (ls[i]'(by omega)) := List.getElem?_eq_getElem (by omega)
        obtain ⟨t, ht1, ht2⟩ := htab _ _ (hfa i _ _ hc hl)
        have hci : (cs.map V.int)[i]? = some (.int cs[i]) := by rw [List.getElem?_map, hc]; rfl
        have hd3 := b3 _ _ (s0 _ _ hd) (ne_of_none hd nL)
        have ht3 := b3 _ _ (s0 _ _ ht2) (ne_of_none ht2 nL)
        refine ⟨_, rfl, _, rfl, a, _, _, _, rfl, rfl, SqT.of ha3, atI_nat hci, _, rfl, d, _, rfl, DGet.k (k := Sum.inl cs[i]) hd3, _, rfl, ?_⟩
        rw [ht1]
        refine iteT ⟨_, rfl, .inl ⟨rfl, _, SqL.of hL3⟩, _, rfl, _, rfl, _, rfl, a, _, _, _, rfl, rfl, SqT.of ha3, atI_nat hci, d, V.ref t, rfl, ?_, ?_⟩
        · exact .inl ⟨_, Sum.inl cs[i], .inl hd3, rfl, ht1.symm⟩
        · have hfl := flat_le ls (i + 1)
          rw [flat_take hl, List.length_append] at hfl
          refine ⟨L, t, _, _, rfl, rfl, hL3, SqT.of ht3, by rw [List.length_map, List.length_map, sizeLine_eq]; omega, _, rfl, _, _, rfl, rfl, ?_, b3.trans But.upd, ?_⟩
          · rfl
          · rw [upd_same, flat_take hl, List.map_append]
    · have ei : i = cs.length := by omega
      subst ei
      rw [decide_eq_false (by rw [List.length_map]; omega)]
      refine iteF ⟨_, rfl, L, _, rfl, .inl ⟨SqL.of hL3, fun t nt => ?_⟩⟩
      have e3 : ∀ b u, H b = some u → upd H3 t (.tup ((ls.take cs.length).flatten.map V.int)) b = some u := fun b u hb => by
        have z := b3 _ _ (s0 _ _ hb) (ne_of_none hb nL)
        rw [upd_ne (ne_of_none z nt)]
        exact z
      refine ⟨_, rfl, a, _, rfl, .inr (SqT.of (e3 _ _ ha)), by show 2 ≤ sizeLine; decide, fun p np => ?_⟩
      refine q _ p t _ ?_ upd_same ?_
      · intro b u hb
        rw [upd_ne (ne_of_none (e3 _ _ hb) np)]
        exact e3 _ _ hb
      · rw [upd_ne (ne_of_none upd_same np), upd_same, hlen, List.take_length]
end K58


set_option Elab.async false
set_option linter.all false
set_option maxRecDepth 100000
set_option maxHeartbeats 8000000
namespace K58
open PySem PySem.Spec PyProof.Rows L2
variable {P : Program} {w : World} {K : PySem.W.Frag} {mg : Str → Option Value} {base : Heap} {f : Addr} {fd : FuncData}
theorem putF_len (f : Str) (v : V) : ∀ fs : List (Str × V), (putF f v fs).length ≤ fs.length + 1
  | [] => Nat.le_refl _
  | (g, x) :: r => by
    unfold putF
    by_cases h : g = f
    · rw [if_pos h, List.length_cons, List.length_cons]
      omega
    · rw [if_neg h, List.length_cons, List.length_cons]
      have := putF_len f v r
      omega
/-- tuple(xs) -/
theorem tof {H : Hp} {a : Addr} {ys : List V} (ha : H a = some (.lst ys) ∨ H a = some (.tup ys)) (Qv : VK) (h : ∀ (H1 : Hp) (t : Addr), Same H H1 → H1 t = some (.tup ys) → Qv (.ref t) H1) :
    (SqL K H a ys ∧ ∀ l, H l = none → Qv (.ref l) (upd H l (.tup ys))) ∨ (SqT K H a ys ∧ Qv (.ref a) H) := by
  rcases ha with ha | ha
  · exact .inl ⟨SqL.of ha, fun l nl => h _ l (Same.upd nl) upd_same⟩
  · exact .inr ⟨SqT.of ha, h _ a (Same.refl _) ha⟩
theorem call_tupA {X : Cx} : CallR X (.type "tuple") (fun xs H Q => ∃ (a : Addr) (ys : List V), xs = [.ref a] ∧ (H a = some (.lst ys) ∨ H a = some (.tup ys)) ∧ ∀ (H1 : Hp) (t : Addr), Same H H1 → H1 t = some (.tup ys) → Q (.ref t) H1) :=
  fun pins s σ H xs us Q I r ⟨a, ys, e, ha, h⟩ => call_tuple_of pins s σ H xs us Q I r ⟨a, ys, e, tof ha Q h⟩
/-! ### Answers -/
theorem sc_ans : FnScope ["self", "registry", "errors"] ["self", "registry", "errors"] (defScope s_answers_init) := ⟨rfl, rfl, rfl, by decide +kernel, rfl, by decide +kernel, by decide +kernel⟩
def spAns (C : Addr) : Sp := fun vs H Q _ => ∃ (x dx : Addr) (r e : V), vs = [.ref x, r, e] ∧ H x = some (.ins C dx []) ∧ ∀ H', But x H H' → Q .non H'
theorem ok_ans {C : Addr} (F : FD K d_answers_init f fd) (cl : Cls K C) (n1 : NoAttr K C "registry") (n2 : NoAttr K C "errors") (n3 : NoAttr K C "handler") : FnOk P w K mg base CX0 1 f fd ["self", "registry", "errors"] (spAns C) := by
  refine ok0 F sc_ans (fun vs H Q E h => ?_) fun cdv A outer s H vs Q E ec hr h => ?_
  · obtain ⟨_, _, _, _, rfl, _⟩ := h
    rfl
  · obtain ⟨x, dx, r, e, rfl, hx, q⟩ := h
    refine ⟨_, pss_cons (ps_fld (pv 0) (pv 1) rfl) (pss_cons (ps_fld (pv 0) (pv 2) rfl) (pss_one (ps_fld (pv 0) pe_non rfl))), ?_⟩
    refine ⟨_, rfl, _, rfl, x, C, dx, _, rfl, hx, cl, n1, by decide, ?_⟩
    refine ⟨_, rfl, _, rfl, x, C, dx, _, rfl, upd_same, cl, n2, by have := putF_len "registry" r []; simp only [List.length_nil] at this; omega, ?_⟩
    refine ⟨_, rfl, x, C, dx, _, rfl, upd_same, cl, n3, by have a := putF_len "registry" r []; have b := putF_len "errors" e (putF "registry" r []); simp only [List.length_nil] at a; omega, ?_⟩
    exact q _ ((But.upd.trans But.upd).trans But.upd)
/-! ### Registry() -/
theorem sc_reg : FnScope ["self"] ["self"] (defScope s_registry_init) := ⟨rfl, rfl, rfl, by decide +kernel, rfl, by decide +kernel, by decide +kernel⟩
def RegAt (C : Addr) (H : Hp) (x : Addr) : Prop := ∃ dx fs, H x = some (.ins C dx fs) ∧ fs.lookup ("charmap" : Str) = none
def spReg (C : Addr) : Sp := fun vs H Q _ => ∃ (x dx : Addr), vs = [.ref x] ∧ H x = some (.ins C dx []) ∧ ∀ H', But x H H' → RegAt C H' x → Q .non H'
theorem lk_ne {f g : Str} {v : V} {fs : List (Str × V)} (h : g ≠ f) (e : fs.lookup g = none) : (putF f v fs).lookup g = none := by
  rw [lookup_putF, if_neg h, e]
theorem ok_reg {C : Addr} (F : FD K d_registry_init f fd) (cl : Cls K C) (n1 : NoAttr K C "searchers") (n2 : NoAttr K C "found_codecs") (n3 : NoAttr K C "own_handlers") : FnOk P w K mg base CX0 1 f fd ["self"] (spReg C) := by
  refine ok0 F sc_reg (fun vs H Q E h => ?_) fun cdv A outer s H vs Q E ec hr h => ?_
  · obtain ⟨_, _, rfl, _⟩ := h
    rfl
  · obtain ⟨x, dx, rfl, hx, q⟩ := h
    refine ⟨_, pss_cons (ps_fld (pv 0) (pe_lst pa_nil) rfl) (pss_cons (ps_fld (pv 0) pe_dnewK rfl) (pss_one (ps_fld (pv 0) pe_dnewK rfl))), ?_⟩
    refine ⟨by show 0 ≤ sizeLine; decide, fun l nl => ?_⟩
    have hx1 : upd H l (.lst []) x = some (.ins C dx []) := by rw [upd_ne (ne_of_none hx nl)]; exact hx
    refine ⟨_, rfl, x, C, dx, _, rfl, hx1, cl, n1, by decide, ?_⟩
    intro d1 nd1
    have hx2 := upd_ne (o := HO.dK []) (H := upd (upd H l (.lst [])) x (.ins C dx (putF "searchers" (.ref l) []))) (ne_of_none (upd_same : upd (upd H l (.lst [])) x (.ins C dx (putF "searchers" (.ref l) [])) x = _) nd1)
    refine ⟨_, rfl, x, C, dx, _, rfl, hx2.trans upd_same, cl, n2, by have := putF_len "searchers" (.ref l) []; simp only [List.length_nil] at this; omega, ?_⟩
    intro d2 nd2
    refine ⟨_, rfl, x, C, dx, _, rfl, (upd_ne (ne_of_none upd_same nd2)).trans upd_same, cl, n3, by have a := putF_len "searchers" (.ref l) []; have b := putF_len "found_codecs" (.ref d1) (putF "searchers" (.ref l) []); simp only [List.length_nil] at a; omega, ?_⟩
    refine q _ ?_ ⟨dx, _, upd_same, lk_ne (by decide) (lk_ne (by decide) (lk_ne (by decide) rfl))⟩
    exact ((((((But.same (Same.upd nl)).trans But.upd).trans (But.same (Same.upd nd1))).trans But.upd).trans (But.same (Same.upd nd2))).trans But.upd)
/-! ### Codec -/
structure CodAt (C : Addr) (H : Hp) (a : Addr) (gt gb : Int → List Int → Prop) : Prop where
  ex : ∃ (dx dt db : Addr) (fs : List (Str × V)) (rg : V), H a = some (.ins C dx fs) ∧ fs.lookup ("registry" : Str) = some rg ∧ fs.lookup ("kind" : Str) = some (.str "charmap") ∧ fs.lookup ("table" : Str) = some (.ref dt) ∧ fs.lookup ("back" : Str) = some (.ref db) ∧
    fs.lookup ("encoded" : Str) = none ∧ fs.lookup ("decoded" : Str) = none ∧ DTab H dt gt ∧ DTab H db gb
theorem sc_cod : FnScope ["self", "registry", "name", "kind", "table", "back"] ["self", "registry", "name", "kind", "table", "back"] (defScope s_codec_init) := ⟨rfl, rfl, rfl, by decide +kernel, rfl, by decide +kernel, by decide +kernel⟩
def codF (rg nm kd tb bk : V) : List (Str × V) := putF "back" bk (putF "table" tb (putF "kind" kd (putF "name" nm (putF "registry" rg []))))
def spCod (C : Addr) : Sp := fun vs H Q _ => ∃ (x dx : Addr) (rg nm kd tb bk : V), vs = [.ref x, rg, nm, kd, tb, bk] ∧ H x = some (.ins C dx []) ∧ ∀ H', But x H H' → H' x = some (.ins C dx (codF rg nm kd tb bk)) → Q .non H'
structure ClC (K : PySem.W.Frag) (C : Addr) : Prop where
  cl : Cls K C
  n1 : NoAttr K C "registry"
  n2 : NoAttr K C "name"
  n3 : NoAttr K C "kind"
  n4 : NoAttr K C "table"
  n5 : NoAttr K C "back"
theorem ok_cod {C : Addr} (F : FD K d_codec_init f fd) (cc : ClC K C) : FnOk P w K mg base CX0 1 f fd ["self", "registry", "name", "kind", "table", "back"] (spCod C) := by
  refine ok0 F sc_cod (fun vs H Q E h => ?_) fun cdv A outer s H vs Q E ec hr h => ?_
  · obtain ⟨_, _, _, _, _, _, _, rfl, _⟩ := h
    rfl
  · obtain ⟨x, dx, rg, nm, kd, tb, bk, rfl, hx, q⟩ := h
    have l1 := putF_len "registry" rg []
    have l2 := putF_len "name" nm (putF "registry" rg [])
    have l3 := putF_len "kind" kd (putF "name" nm (putF "registry" rg []))
    have l4 := putF_len "table" tb (putF "kind" kd (putF "name" nm (putF "registry" rg [])))
    simp only [List.length_nil] at l1
    refine ⟨_, pss_cons (ps_fld (pv 0) (pv 1) rfl) (pss_cons (ps_fld (pv 0) (pv 2) rfl) (pss_cons (ps_fld (pv 0) (pv 3) rfl) (pss_cons (ps_fld (pv 0) (pv 4) rfl) (pss_one (ps_fld (pv 0) (pv 5) rfl))))), ?_⟩
    refine ⟨_, rfl, _, rfl, x, C, dx, _, rfl, hx, cc.cl, cc.n1, by decide, ?_⟩
    refine ⟨_, rfl, _, rfl, x, C, dx, _, rfl, upd_same, cc.cl, cc.n2, by omega, ?_⟩
    refine ⟨_, rfl, _, rfl, x, C, dx, _, rfl, upd_same, cc.cl, cc.n3, by omega, ?_⟩
    refine ⟨_, rfl, _, rfl, x, C, dx, _, rfl, upd_same, cc.cl, cc.n4, by omega, ?_⟩
    refine ⟨_, rfl, _, rfl, x, C, dx, _, rfl, upd_same, cc.cl, cc.n5, by omega, ?_⟩
    exact q _ ((((But.upd.trans But.upd).trans But.upd).trans But.upd).trans But.upd) upd_same
theorem sc_enc : FnScope ["self", "source", "errors", "answers", "write"] ["self", "source", "errors"] (defScope s_codec_encoded) := ⟨rfl, rfl, rfl, by decide +kernel, rfl, by decide +kernel, by decide +kernel⟩
theorem sc_dec : FnScope ["self", "data", "errors", "final", "answers", "read"] ["self", "data", "errors", "final"] (defScope s_codec_decoded) := ⟨rfl, rfl, rfl, by decide +kernel, rfl, by decide +kernel, by decide +kernel⟩
def spEnc (C : Addr) : Sp := fun vs H Q _ => ∃ (x a : Addr) (er : V) (gt gb : Int → List Int → Prop) (cs : List Int) (ls : List (List Int)), vs = [.ref x, .ref a, er] ∧ CodAt C H x gt gb ∧ (H a = some (.lst (cs.map V.int)) ∨ H a = some (.tup (cs.map V.int))) ∧ Fa gb cs ls ∧ ls.flatten.length ≤ 1000 ∧
  ∀ (H' : Hp) (p t : Addr) (n : Int), Same H H' → H' p = some (.tup [.ref t, .int n]) → H' t = some (.tup (ls.flatten.map V.int)) → Q (.ref p) H'
def spDec (C : Addr) : Sp := fun vs H Q _ => ∃ (x a : Addr) (er fi : V) (gt gb : Int → List Int → Prop) (cs : List Int) (ls : List (List Int)), vs = [.ref x, .ref a, er, fi] ∧ CodAt C H x gt gb ∧ (H a = some (.lst (cs.map V.int)) ∨ H a = some (.tup (cs.map V.int))) ∧ Fa gt cs ls ∧ ls.flatten.length ≤ 1000 ∧
  ∀ (H' : Hp) (p t : Addr) (n : Int), Same H H' → H' p = some (.tup [.ref t, .int n]) → H' t = some (.tup (ls.flatten.map V.int)) → Q (.ref p) H'
theorem DTab.same {H H' : Hp} {d : Addr} {g : Int → List Int → Prop} (h : DTab H d g) (x : Same H H') : DTab H' d g := h.ext (ExtN.same x)
theorem But.new {x : Addr} {H H' : Hp} {o : HO} (n : H x = none) (b : But x (L2.upd H x o) H') : Same H H' := fun c u e => by
  have nx := ne_of_none e n
  exact b _ _ (by rw [upd_ne nx]; exact e) nx
theorem But.new2 {x dx : Addr} {H H' : Hp} {o o2 : HO} (n : H x = none) (n2 : H dx = none) (b : But x (L2.upd (L2.upd H dx o2) x o) H') : Same H H' := fun c u e => by
  have nx := ne_of_none e n
  have nx2 := ne_of_none e n2
  exact b _ _ (by rw [upd_ne nx, upd_ne nx2]; exact e) nx
theorem ok_enc {C CA : Addr} (F : FD K d_codec_encoded f fd) (M : Mo mg) (cc : ClC K C) (AN : CalC P w K mg base "Answers" CA 1 ["self", "registry", "errors"] [] (spAns CA)) (CW : Cal P w K mg base "write_charmap" 1 ["source", "answers", "back"] [] spWr) :
    FnOk P w K mg base CX0 3 f fd ["self", "source", "errors"] (spEnc C) := by
  refine ok0 F sc_enc (fun vs H Q E h => ?_) fun cdv A outer s H vs Q E ec hr h => ?_
  · obtain ⟨_, _, _, _, _, _, _, rfl, _⟩ := h
    rfl
  · obtain ⟨x, a, er, gt, gb, cs, ls, rfl, ⟨dx, dt, db, fs, rg, hx, f1, f3, f4, f5, f6, f7, ht, hb⟩, ha, hfa, hsz, q⟩ := h
    have hr1 := hr.mono (by decide : 1 ≤ 2)
    refine ⟨_, pss_cons (ps_par (i := 1) (j := 3) rfl sc_enc.nd rfl rfl (by decide) rfl rfl (pa_cons (pe_callTy call_tupA (by rfl) M.tuple b_tuple (pa_cons (pv 1) pa_nil)) (pa_cons (pe_mk AN hr (pa_cons (pe_fld (pv 0) rfl) (pa_cons (pv 2) pa_nil))) pa_nil)) (by rfl))
      (pss_cons (ps_if (pt_cmpR op_eq (pe_fld (pv 0) rfl) pe_str (nomark _)) (pss_one (ps_ret (pe_tup (pa_cons (pe_c CW hr1 (pa_cons (pv 1) (pa_cons (pv 3) (pa_cons (pe_fld (pv 0) rfl) pa_nil)))) (pa_cons (pe_callB call_len_seq (by rfl) M.len PySem.boot_len (pa_cons (pv 1) pa_nil)) pa_nil))))) pss_nil) pss_never), ?_⟩
    refine ⟨_, rfl, a, _, rfl, ha, fun H1 t s1 ht1 => ?_⟩
    refine ⟨_, rfl, x, C, dx, fs, rg, rfl, s1 _ _ hx, cc.cl, cc.n1, f1, _, rfl, ?_⟩
    intro ax adx nx ndx ne
    refine ⟨ax, adx, rg, er, rfl, upd_same, fun H2 b => ⟨rfl, _, _, rfl, ?_⟩⟩
    have s2 : Same H1 H2 := But.new2 nx ndx b
    have s02 := s1.trans s2
    refine ⟨_, rfl, x, C, dx, fs, _, rfl, s02 _ _ hx, cc.cl, cc.n3, f3, rfl, _, rfl, ?_⟩
    rw [decide_eq_true rfl]
    refine iteT ⟨_, rfl, _, rfl, _, rfl, x, C, dx, fs, _, rfl, s02 _ _ hx, cc.cl, cc.n5, f5, ?_⟩
    refine ⟨t, db, _, gb, cs, ls, rfl, s2 _ _ ht1, hb.same s02, hfa, hsz, fun H3 p s3 hp => ?_⟩
    have s03 := s02.trans s3
    refine ⟨_, rfl, t, _, rfl, .inr (SqT.of (s3 _ _ (s2 _ _ ht1))), by show 2 ≤ sizeLine; decide, fun p2 np2 => ?_⟩
    refine q _ p2 p _ (s03.trans (Same.upd np2)) upd_same ?_
    rw [upd_ne (ne_of_none hp np2)]
    exact hp
theorem ok_dec {C CA : Addr} (F : FD K d_codec_decoded f fd) (M : Mo mg) (cc : ClC K C) (AN : CalC P w K mg base "Answers" CA 1 ["self", "registry", "errors"] [] (spAns CA)) (CW : Cal P w K mg base "read_charmap" 1 ["data", "answers", "final", "table"] [] spRd) :
    FnOk P w K mg base CX0 3 f fd ["self", "data", "errors", "final"] (spDec C) := by
  refine ok0 F sc_dec (fun vs H Q E h => ?_) fun cdv A outer s H vs Q E ec hr h => ?_
  · obtain ⟨_, _, _, _, _, _, _, _, rfl, _⟩ := h
    rfl
  · obtain ⟨x, a, er, fi, gt, gb, cs, ls, rfl, ⟨dx, dt, db, fs, rg, hx, f1, f3, f4, f5, f6, f7, ht, hb⟩, ha, hfa, hsz, q⟩ := h
    have hr1 := hr.mono (by decide : 1 ≤ 2)
    refine ⟨_, pss_cons (ps_par (i := 1) (j := 4) rfl sc_dec.nd rfl rfl (by decide) rfl rfl (pa_cons (pe_callTy call_tupA (by rfl) M.tuple b_tuple (pa_cons (pv 1) pa_nil)) (pa_cons (pe_mk AN hr (pa_cons (pe_fld (pv 0) rfl) (pa_cons (pv 2) pa_nil))) pa_nil)) (by rfl))
      (pss_cons (ps_if (pt_cmpR op_eq (pe_fld (pv 0) rfl) pe_str (nomark _)) (pss_one (ps_ret (pe_c CW hr1 (pa_cons (pv 1) (pa_cons (pv 4) (pa_cons (pv 3) (pa_cons (pe_fld (pv 0) rfl) pa_nil))))))) pss_nil) pss_never), ?_⟩
    refine ⟨_, rfl, a, _, rfl, ha, fun H1 t s1 ht1 => ?_⟩
    refine ⟨_, rfl, x, C, dx, fs, rg, rfl, s1 _ _ hx, cc.cl, cc.n1, f1, _, rfl, ?_⟩
    intro ax adx nx ndx ne
    refine ⟨ax, adx, rg, er, rfl, upd_same, fun H2 b => ⟨rfl, _, _, rfl, ?_⟩⟩
    have s2 : Same H1 H2 := But.new2 nx ndx b
    have s02 := s1.trans s2
    refine ⟨_, rfl, x, C, dx, fs, _, rfl, s02 _ _ hx, cc.cl, cc.n3, f3, rfl, _, rfl, ?_⟩
    rw [decide_eq_true rfl]
    refine iteT ⟨_, rfl, _, rfl, _, rfl, _, rfl, x, C, dx, fs, _, rfl, s02 _ _ hx, cc.cl, cc.n4, f4, ?_⟩
    exact ⟨t, dt, _, _, gt, cs, ls, rfl, s2 _ _ ht1, ht.same s02, hfa, hsz, fun H3 p t3 n s3 hp ht3 => q _ p t3 n (s02.trans s3) hp ht3⟩
end K58


set_option Elab.async false
set_option linter.all false
set_option maxRecDepth 100000
set_option maxHeartbeats 8000000
namespace K58
open PySem PySem.Spec PyProof.Rows L2
variable {P : Program} {w : World} {K : PySem.W.Frag} {mg : Str → Option Value} {base : Heap} {f : Addr} {fd : FuncData}
theorem TabAt.ext {H H' : Hp} {a : Addr} {prs : List (Int × V)} (h : TabAt H a prs) (x : LamX.ExtN H H') : TabAt H' a prs := by
  rcases h with ⟨es, h, e⟩ | h
  · exact .inl ⟨es, h.elim (fun z => .inl (x _ _ z (fun _ q => by cases q))) (fun z => .inr (x _ _ z (fun _ q => by cases q))), e⟩
  · exact .inr (x _ _ h (fun _ q => by cases q))
theorem isG_ok {H : Hp} {prs : List (Int × V)} {back : List (Int × Int)} (hG : GoodP H prs) (h : IsG prs back) : ∀ q ∈ back, 0 ≤ q.1 ∧ q.1 ≤ 1114111 ∧ 0 ≤ q.2 ∧ q.2 ≤ 255 := by
  rintro ⟨c, o⟩ hq
  have g := (h.mem c o).mp hq
  obtain ⟨a, b, e, he⟩ := hG.ok _ g.1
  cases e with
  | hole => cases (he : V.int c = .non)
  | code c' =>
    obtain ⟨e1, e2, e3⟩ := he
    have e4 := V.int.inj e1
    subst e4
    exact ⟨e2, e3, a, b⟩
  | txt cs =>
    obtain ⟨_, e1, _⟩ := he
    cases e1
theorem sc_chm : FnScope ["self", "name", "table", "back", "entries", "ways"] ["self", "name", "table", "back"] (defScope s_registry_charmap) := ⟨rfl, rfl, rfl, by decide +kernel, rfl, by decide +kernel, by decide +kernel⟩
def spChm (T : List (Addr × Str)) (C : Addr) : Sp := fun vs H Q _ => ∃ (r a : Addr) (nm bk : V) (prs prsB : List (Int × V)), vs = [.ref r, nm, .ref a, bk] ∧ TabAt H a prs ∧ GoodP H prs ∧ LamX.Tabs T H ∧
  ((bk = .non ∧ prsB = prs) ∨ ∃ (d : Addr) (back : List (Int × Int)), bk = .ref d ∧ H d = some (.dK (mapB back)) ∧ IsG prsB back ∧ ∀ q ∈ back, 0 ≤ q.1 ∧ q.1 ≤ 1114111 ∧ 0 ≤ q.2 ∧ q.2 ≤ 255) ∧
  ∀ (H' : Hp) (p : Addr), LamX.ExtN H H' → LamX.Tabs T H' → CodAt C H' p (RT H prs) (W prsB) → Q (.ref p) H'
theorem ok_chm {T : List (Addr × Str)} {C : Addr} (F : FD K d_registry_charmap f fd) (cc : ClC K C) (CT : Cal P w K mg base "checked_table" 4 ["table"] [] (spTab T)) (CB : Cal P w K mg base "checked_back" 3 ["back"] [] spCB)
    (CW : Cal P w K mg base "way_back" 4 ["table"] [] (spBack T)) (CC : CalC P w K mg base "Codec" C 1 ["self", "registry", "name", "kind", "table", "back"] [] (spCod C)) :
    FnOk P w K mg base CX0 5 f fd ["self", "name", "table", "back"] (spChm T C) := by
  refine ok0 F sc_chm (fun vs H Q E h => ?_) fun cdv A outer s H vs Q E ec hr h => ?_
  · obtain ⟨_, _, _, _, _, _, rfl, _⟩ := h
    rfl
  · obtain ⟨r, a, nm, bk, prs, prsB, rfl, hT, hG, hTb, hbk, q⟩ := h
    refine ⟨_, pss_cons (ps_set (i := 4) sc_chm.nd rfl (.inl rfl) (pe_c CT hr (pa_cons (pv 2) pa_nil)))
      (pss_cons (ps_set (i := 5) sc_chm.nd rfl (.inl rfl) (pe_c CB (hr.mono (by decide)) (pa_cons (pe_ifExp (pt_cmp (pc_isN (pv 3)) rfl) (pe_c CW hr (pa_cons (pv 2) pa_nil)) (pv 3)) pa_nil)))
      (pss_one (ps_ret (pe_mk CC (hr.mono (by decide)) (pa_cons (pv 0) (pa_cons (pv 1) (pa_cons pe_str (pa_cons (pv 4) (pa_cons (pv 5) pa_nil))))))))), ?_⟩
    refine ⟨_, rfl, a, prs, rfl, hT, hG, hTb, fun H1 dt x1 t1 hdt => ?_⟩
    have last : ∀ (H2 H3 : Hp) (d db : Addr) (back : List (Int × Int)), LamX.ExtN H1 H2 → LamX.Tabs T H2 → H2 d = some (.dK (mapB back)) → IsG prsB back → Same H2 H3 → DTab H3 db (fun c l => ∃ o, (c, o) ∈ back ∧ l = [o]) →
        ∀ x dx, H3 x = none → H3 dx = none → dx ≠ x → spCod C (.ref x :: ([.ref r, nm, .str "charmap", .ref dt, .ref db] ++ [])) (upd (upd H3 dx (.own x)) x (.ins C dx [])) (fun v H2 => v = .non ∧ Q (.ref x) H2) E0 := by
      intro H2 H3 d db back x2 t2 hd hg s3 htb x dx nx ndx ne
      refine ⟨x, dx, _, _, _, _, _, rfl, upd_same, fun H4 b4 hx4 => ⟨rfl, ?_⟩⟩
      have s4 : Same H3 H4 := But.new2 nx ndx b4
      have x4 : LamX.ExtN H1 H4 := LamX.ExtN.trans x2 (ExtN.same (s3.trans s4))
      refine q H4 x (LamX.ExtN.trans x1 x4) (tabs_same t2 (s3.trans s4)) ⟨dx, dt, db, _, V.ref r, hx4, ?_, ?_, ?_, ?_, ?_, ?_, hdt.ext x4, (htb.same s4).mono fun c l ⟨o, g, e⟩ => ⟨o, (hg.mem c o).mpr g, e⟩⟩
      · rfl
      · rfl
      · rfl
      · rfl
      · rfl
      · rfl
    rcases hbk with ⟨rfl, rfl⟩ | ⟨d, back, rfl, hd, hg, hok⟩
    · refine ⟨_, rfl, _, rfl, ?_⟩
      rw [decide_eq_true rfl]
      refine iteT ⟨_, rfl, a, prsB, rfl, hT.ext x1, hG.ext x1, t1, fun H2 d back x2 t2 hd hg => ?_⟩
      refine ⟨d, back, rfl, hd, hg.nd, hg.len, isG_ok hG hg, fun H3 db s3 htb => ?_⟩
      exact ⟨_, rfl, _, rfl, _, rfl, _, rfl, last H2 H3 d db back x2 t2 hd hg s3 htb⟩
    · refine ⟨_, rfl, _, rfl, ?_⟩
      rw [decide_eq_false (by intro z; cases z)]
      refine iteF ⟨_, rfl, ?_⟩
      refine ⟨d, back, rfl, x1 _ _ hd (fun _ q => by cases q), hg.nd, hg.len, hok, fun H3 db s3 htb => ?_⟩
      exact ⟨_, rfl, _, rfl, _, rfl, _, rfl, last H1 H3 d db back (LamX.ExtN.refl _) t1 (x1 _ _ hd (fun _ q => by cases q)) hg s3 htb⟩
end K58


set_option Elab.async false
set_option linter.all false
set_option maxRecDepth 100000
set_option maxHeartbeats 8000000
namespace K58
open PySem PySem.Spec PyProof.Rows L2
variable {P : Program} {w : World} {K : PySem.W.Frag} {mg : Str → Option Value} {base : Heap} {f : Addr} {fd : FuncData}
/-- a source of draws after at most n draws -/
def SrcAt (H : Hp) (s : Addr) (n : Nat) : Prop := ∃ d x k : Int, H s = some (.lst [.int d, .int x, .int k]) ∧ 0 ≤ x ∧ x ≤ 1099511627776 ∧ 0 ≤ k ∧ k ≤ n
theorem SrcAt.mono {H : Hp} {s : Addr} {n m : Nat} (h : SrcAt H s n) (l : n ≤ m) : SrcAt H s m := by
  obtain ⟨d, x, k, a, b, c, e, g⟩ := h
  exact ⟨d, x, k, a, b, c, e, by omega⟩
theorem SrcAt.same {H H' : Hp} {s : Addr} {n : Nat} (h : SrcAt H s n) (x : Same H H') : SrcAt H' s n := by
  obtain ⟨d, x', k, a, b⟩ := h
  exact ⟨d, x', k, x _ _ a, b⟩
theorem SrcAt.ext {H H' : Hp} {s : Addr} {n : Nat} (h : SrcAt H s n) (x : LamX.ExtN H H') : SrcAt H' s n := by
  obtain ⟨d, x', k, a, b⟩ := h
  exact ⟨d, x', k, x _ _ a (fun _ q => by cases q), b⟩
theorem sc_src : FnScope ["_law_script", "_law_k", "_law_cell", "_law_deep"] ["_law_script", "_law_k"] (defScope s_law_source) := ⟨rfl, rfl, rfl, by decide +kernel, rfl, by decide +kernel, by decide +kernel⟩
def spSrc (K : PySem.W.Frag) : Sp := fun vs H Q _ => ∃ (a : Addr) (xs : List Int) (k : Int), vs = [.ref a, .int k] ∧ SqL K H a (xs.map V.int) ∧ 0 ≤ k ∧ k ≤ 5 ∧ ∀ (H' : Hp) (s : Addr), Same H H' → H s = none → SrcAt H' s 0 → Q (.ref s) H'
theorem b_intT : bootBuiltins "int" = some (.type "int") := b_int
theorem ok_src (F : FD K d_law_source f fd) (g : mg "_law_source" = some (.ref f)) (M : Mo mg) : Cal P w K mg base "_law_source" 1 ["_law_script", "_law_k"] [] (spSrc K) := by
  refine cal0 F g (ok0 F sc_src (fun vs H Q E h => ?_) fun cdv A outer s H vs Q E ec hr h => ?_) fun _ _ _ _ _ _ us hl => match us, hl with | [_, _], _ => rfl
  · obtain ⟨_, _, _, rfl, _⟩ := h
    rfl
  · obtain ⟨a, xs, k, rfl, ha, k0, k5, q⟩ := h
    refine ⟨_, pss_cons (ps_set (i := 2) sc_src.nd rfl (.inl rfl) pe_int) (pss_cons (ps_set (i := 3) sc_src.nd rfl (.inl rfl) pe_int)
      (pss_cutK (ps_if (pt_cmpR op_gt (pe_callB call_len_seq (by rfl) M.len PySem.boot_len (pa_cons (pv 0) pa_nil)) pe_int (nomark _))
        (pss_one (ps_set (i := 2) sc_src.nd rfl (.inl rfl) (pe_ix ix_list (pv 0) (pe_op op_mod (pe_callTy call_int1 (by rfl) M.int b_int (pa_cons (pv 1) pa_nil)) (pe_callB call_len_seq (by rfl) M.len PySem.boot_len (pa_cons (pv 0) pa_nil))) (fun _ _ => rfl)))) pss_nil)
      (pss_cutK (ps_if (PW.pt (pw_and (pt_cmpR op_lt (pv 1) (pe_callB call_len_seq (by rfl) M.len PySem.boot_len (pa_cons (pv 0) pa_nil)) (nomark _)) (pw_and1 (pt_cmpR op_ge (pv 2) (pe_op op_pow pe_int pe_int) (nomark _)))))
        (pss_one (ps_set (i := 3) sc_src.nd rfl (.inl rfl) (pv 2))) pss_nil)
      (pss_one (ps_ret (pe_lst (pa_cons (pv 3) (pa_cons (pe_op op_add (pe_op op_add (pe_op op_mod (pe_callTy call_int1 (by rfl) M.int b_int (pa_cons (pv 2) pa_nil)) pe_int) (pe_op op_mul pe_int (pv 1))) pe_int) (pa_cons pe_int pa_nil))))))))), ?_⟩
    refine ⟨fun σ2 H2 => ∃ c : Int, σ2 = [some (.ref a), some (.int k), some (.int c), some (.int 0)] ∧ H2 = H, ?_, ?_⟩
    · refine ⟨_, rfl, a, _, rfl, .inl (ha), _, _, rfl, rfl, _, rfl, ?_⟩
      by_cases hn : (0 : Int) < ((xs.map V.int).length : Int)
      · rw [decide_eq_true hn]
        rw [List.length_map] at hn
        refine iteT ⟨_, rfl, _, rfl, .inl ⟨_, rfl, _, rfl, a, _, rfl, .inl (ha), _, _, rfl, rfl, ?_, ?_⟩⟩
        · rw [List.length_map]
          exact hn
        · have h1 := Int.emod_nonneg k (by omega : (xs.length : Int) ≠ 0)
          have h2 := Int.emod_lt_of_pos k hn
          have h3 : (k % (xs.length : Int)).toNat < xs.length := by omega
          refine ⟨a, xs.map V.int, k % ((xs.map V.int).length : Int), .int xs[(k % (xs.length : Int)).toNat], rfl, rfl, ha, ?_, ⟨_, rfl, rfl⟩⟩
          rw [List.length_map]
          have e : (k % (xs.length : Int)) = (((k % (xs.length : Int)).toNat : Nat) : Int) := by omega
          have z : (xs.map V.int)[(k % (xs.length : Int)).toNat]? = some (.int xs[(k % (xs.length : Int)).toNat]) := by
            rw [List.getElem?_map, List.getElem?_eq_getElem h3]
            rfl
          have z2 := atI_nat z
          rw [← e] at z2
          exact z2
      · rw [decide_eq_false hn]
        exact iteF ⟨0, rfl, rfl⟩
    · rintro σ2 H2 ⟨c, rfl, rfl⟩
      refine ⟨fun σ3 H3 => ∃ d : Int, σ3 = [some (.ref a), some (.int k), some (.int c), some (.int d)] ∧ H3 = H2, ?_, ?_⟩
      · refine ⟨_, rfl, _, rfl, a, _, rfl, .inl (ha), _, _, rfl, rfl, _, rfl, ?_⟩
        by_cases hn : k < ((xs.map V.int).length : Int)
        · rw [decide_eq_true hn]
          refine iteT ⟨_, rfl, _, _, rfl, rfl, ⟨by decide, by decide, by decide⟩, _, _, rfl, rfl, _, rfl, ?_⟩
          refine ite2 (fun _ => ⟨_, rfl, c, rfl, rfl⟩) fun _ => ⟨0, rfl, rfl⟩
        · rw [decide_eq_false hn]
          exact iteF (iteF ⟨0, rfl, rfl⟩)
      · rintro σ3 H3 ⟨d, rfl, rfl⟩
        refine ⟨_, rfl, _, rfl, .inl ⟨_, rfl, _, _, rfl, rfl, by show (0 : Int) < 2147483647; decide, _, rfl, _, _, rfl, rfl, .inl ⟨by decide, by decide⟩, _, _, rfl, rfl, _, _, rfl, rfl, by show 3 ≤ sizeLine; decide, fun p np => ?_⟩⟩
        refine q _ p (Same.upd np) np ⟨d, _, 0, upd_same, ?_, ?_, Int.le_refl _, Int.le_refl _⟩
        · have := Int.emod_nonneg c (by decide : (2147483647 : Int) ≠ 0)
          omega
        · have := Int.emod_lt_of_pos c (by decide : (0 : Int) < 2147483647)
          omega
theorem sc_draw : FnScope ["_law_source_here", "_law_many", "_law_digit", "_law_seed"] ["_law_source_here", "_law_many"] (defScope s_law_draw) := ⟨rfl, rfl, rfl, by decide +kernel, rfl, by decide +kernel, by decide +kernel⟩
def spDraw : Sp := fun vs H Q _ => ∃ (s : Addr) (m : Int) (n : Nat), vs = [.ref s, .int m] ∧ SrcAt H s n ∧ n ≤ 1000000 ∧ 1 ≤ m ∧ m ≤ 100000 ∧ ∀ (H' : Hp) (r : Int), But s H H' → SrcAt H' s (n + 1) → 0 ≤ r → r < m → Q (.int r) H'
theorem ok_draw (F : FD K d_law_draw f fd) (g : mg "_law_draw" = some (.ref f)) (M : Mo mg) : Cal P w K mg base "_law_draw" 1 ["_law_source_here", "_law_many"] [] spDraw := by
  refine cal0 F g (ok0 F sc_draw (fun vs H Q E h => ?_) fun cdv A outer s H vs Q E ec hr h => ?_) fun _ _ _ _ _ _ us hl => match us, hl with | [_, _], _ => rfl
  · obtain ⟨_, _, _, rfl, _⟩ := h
    rfl
  · obtain ⟨sa, m, n, rfl, ⟨d, x, k, hs, x0, x1, k0, k1⟩, hn, m1, m2, q⟩ := h
    refine ⟨_, pss_cons (ps_asg (pe_op op_add (pe_ix ix_list (pv 0) pe_int (fun _ _ => rfl)) pe_int) (pg_sub (pv 0) pe_int set_list))
      (pss_cons (ps_if (pt_cmpR op_gt (pe_ix ix_list (pv 0) pe_int (fun _ _ => rfl)) pe_int (nomark _))
        (pss_cons (ps_set (i := 2) sc_draw.nd rfl (.inl rfl) (pe_op op_mod (pe_callTy call_int1 (by rfl) M.int b_int (pa_cons (pe_ix ix_list (pv 0) pe_int (fun _ _ => rfl)) pa_nil)) (pv 1)))
        (pss_cons (ps_asg (pe_op op_fdiv (pe_ix ix_list (pv 0) pe_int (fun _ _ => rfl)) (pv 1)) (pg_sub (pv 0) pe_int set_list))
        (pss_one (ps_ret (pv 2))))) pss_nil)
      (pss_cons (ps_set (i := 3) sc_draw.nd rfl (.inl rfl) (pe_op op_mod (pe_op op_pow (pe_callTy call_int1 (by rfl) M.int b_int (pa_cons (pe_op op_add (pe_ix ix_list (pv 0) pe_int (fun _ _ => rfl)) (pe_op op_mul pe_int (pe_ix ix_list (pv 0) pe_int (fun _ _ => rfl)))) pa_nil)) pe_int) pe_int))
      (pss_one (ps_ret (pe_op op_mod (pe_op op_fdiv (pe_op op_mod (pe_op op_mul (pe_op op_add (pv 3) (pe_ix ix_list (pv 0) pe_int (fun _ _ => rfl))) pe_int) pe_int) pe_int) (pv 1)))))), ?_⟩
    refine ⟨_, rfl, sa, _, _, _, rfl, rfl, SqL.of hs, rfl, _, _, rfl, rfl, _, rfl, sa, _, _, 2, rfl, rfl, hs, rfl, ?_⟩
    have h1 : upd H sa (.lst [.int d, .int x, .int (k + 1)]) sa = some (.lst [.int d, .int x, .int (k + 1)]) := upd_same
    refine ⟨_, rfl, sa, _, _, _, rfl, rfl, SqL.of h1, rfl, _, _, rfl, rfl, _, rfl, ?_⟩
    refine ite2 (fun hd => ?_) fun hd => ?_
    · refine ⟨_, rfl, sa, _, _, _, rfl, rfl, SqL.of h1, rfl, .inl ⟨_, rfl, _, rfl, _, _, rfl, rfl, by show 0 < m; omega, ?_⟩⟩
      refine ⟨_, rfl, sa, _, _, _, rfl, rfl, SqL.of h1, rfl, _, rfl, _, _, rfl, rfl, ⟨by omega, by omega⟩, _, rfl, sa, _, _, 0, rfl, rfl, h1, rfl, ?_⟩
      refine ⟨_, rfl, q _ _ (But.upd.trans But.upd) ⟨d / m, x, k + 1, upd_same, x0, x1, by omega, by omega⟩ (Int.emod_nonneg _ (by omega)) (Int.emod_lt_of_pos _ (by omega))⟩
    · refine ⟨_, rfl, sa, _, _, _, rfl, rfl, SqL.of h1, rfl, _, rfl, sa, _, _, _, rfl, rfl, SqL.of h1, rfl, _, _, rfl, rfl, .inl ⟨by decide, by decide⟩, _, _, rfl, rfl, .inl ⟨_, rfl, _, _, rfl, rfl, ⟨by decide, by decide, by omega⟩, _, _, rfl, rfl, by show (0 : Int) < 2147483647; decide, ?_⟩⟩
      refine ⟨_, rfl, _, rfl, sa, _, _, _, rfl, rfl, SqL.of h1, rfl, _, _, rfl, rfl, _, _, rfl, rfl, .inr ⟨by decide, by decide⟩, _, _, rfl, rfl, by show (0 : Int) < 2147483629; decide, _, _, rfl, rfl, ⟨by decide, by decide⟩, _, rfl, _, _, rfl, rfl, by show 0 < m; omega, ?_⟩
      exact q _ _ But.upd ⟨d, x, k + 1, upd_same, x0, x1, by omega, by omega⟩ (Int.emod_nonneg _ (by omega)) (Int.emod_lt_of_pos _ (by omega))
end K58


set_option Elab.async false
set_option linter.all false
set_option maxRecDepth 100000
set_option maxHeartbeats 8000000
namespace K58
open PySem PySem.Spec PyProof.Rows L2
variable {P : Program} {w : World} {K : PySem.W.Frag} {mg : Str → Option Value} {base : Heap} {f : Addr} {fd : FuncData}
/-! ### != of rows of ints -/
def dI (cs : List Int) : List PyData := cs.map PyData.int
theorem dpI {H : Hp} : ∀ cs : List Int, DpAll K H (cs.map V.int) (dI cs)
  | [] => .nil
  | c :: cs => .cons (.int c) (dpI cs)
theorem canI : ∀ cs : List Int, PyData.canLayAll0 (dI cs) = true
  | [] => by simp [dI, PyData.canLayAll0]
  | c :: cs => by
    have h := canI cs
    simp only [dI] at h
    simp [dI, PyData.canLayAll0, PyData.canLay0, h]
theorem depI : ∀ cs : List Int, PyData.depthAll (dI cs) = 0
  | [] => by simp [dI, PyData.depthAll]
  | c :: cs => by
    have h := depI cs
    simp only [dI] at h
    simp [dI, PyData.depthAll, PyData.depth, h]
theorem shL (cs : List Int) : SeqAt.shaped (.list (dI cs)) = true := by
  unfold SeqAt.shaped
  rw [show PyData.canLay0 (.list (dI cs)) = true by rw [PyData.canLay0]; exact canI cs, show PyData.depth (.list (dI cs)) = 1 by rw [PyData.depth, depI]]
  rfl
theorem shT (cs : List Int) : SeqAt.shaped (.tuple (dI cs)) = true := by
  unfold SeqAt.shaped
  rw [show PyData.canLay0 (.tuple (dI cs)) = true by rw [PyData.canLay0]; exact canI cs, show PyData.depth (.tuple (dI cs)) = 1 by rw [PyData.depth, depI]]
  rfl
/-- two tuples of the same ints -/
def rNeT (K : PySem.W.Frag) : R2 := fun x y H Q => ∃ (a b : Addr) (cs : List Int), x = .ref a ∧ y = .ref b ∧ SqT K H a (cs.map V.int) ∧ SqT K H b (cs.map V.int) ∧ Q (.bl false) H
theorem op_neT {X : Cx} (hu : X.A.units + 64 < cLine) : OpR X (compareOp .NotEq) (rNeT X.K) := by
  intro pins s σ H x y v u Q I rx ry h
  obtain ⟨a, b, cs, rfl, rfl, ha, hb, q⟩ := h
  refine op_neD hu pins s σ H _ _ v u Q I rx ry ⟨_, _, .tup ha (dpI cs), .tup hb (dpI cs), shT cs, shT cs, ?_⟩
  have e : PyData.eqv (.tuple (dI cs)) (.tuple (dI cs)) = true := SeqAt.eqv_refl _ (by rw [PyData.canLay0]; exact canI cs)
  rw [e]
  exact q
/-- a list of ints and [] -/
def rNeN (K : PySem.W.Frag) : R2 := fun x y H Q => ∃ (a b : Addr) (cs : List Int), x = .ref a ∧ y = .ref b ∧ SqL K H a (cs.map V.int) ∧ SqL K H b [] ∧ Q (.bl (!cs.isEmpty)) H
theorem op_neN {X : Cx} (hu : X.A.units + 64 < cLine) : OpR X (compareOp .NotEq) (rNeN X.K) := by
  intro pins s σ H x y v u Q I rx ry h
  obtain ⟨a, b, cs, rfl, rfl, ha, hb, q⟩ := h
  refine op_neD hu pins s σ H _ _ v u Q I rx ry ⟨_, _, .lst ha (dpI cs), .lst hb (dpI []), shL cs, shL [], ?_⟩
  have e : PyData.eqv (.list (dI cs)) (.list (dI [])) = cs.isEmpty := by
    cases cs with
    | nil => simp [dI, PyData.eqv, PyData.eqvAll]
    | cons c cs => simp [dI, PyData.eqv, PyData.eqvAll]
  rw [e]
  exact q
theorem hu64 {k : Nat} {A : Around} (hr : Room k A) : A.units + 64 < cLine := by
  have := hr.un
  omega
/-! ### _law_pick -/
theorem sc_pick : FnScope ["_law_source_here", "_law_some_here"] ["_law_source_here", "_law_some_here"] (defScope s_law_pick) := ⟨rfl, rfl, rfl, by decide +kernel, rfl, by decide +kernel, by decide +kernel⟩
def spPick : Sp := fun vs H Q _ => ∃ (s a : Addr) (xs : List V) (n : Nat), vs = [.ref s, .ref a] ∧ SrcAt H s n ∧ n ≤ 1000000 ∧ H a = some (.lst xs) ∧ a ≠ s ∧ 1 ≤ xs.length ∧ xs.length ≤ 1000 ∧
  ∀ (H' : Hp) (x : V), But s H H' → SrcAt H' s (n + 1) → x ∈ xs → Q x H'
theorem ok_pick (F : FD K d_law_pick f fd) (g : mg "_law_pick" = some (.ref f)) (M : Mo mg) (D : Cal P w K mg base "_law_draw" 1 ["_law_source_here", "_law_many"] [] spDraw) : Cal P w K mg base "_law_pick" 2 ["_law_source_here", "_law_some_here"] [] spPick := by
  refine cal0 F g (ok0 F sc_pick (fun vs H Q E h => ?_) fun cdv A outer s H vs Q E ec hr h => ?_) fun _ _ _ _ _ _ us hl => match us, hl with | [_, _], _ => rfl
  · obtain ⟨_, _, _, _, rfl, _⟩ := h
    rfl
  · obtain ⟨sa, a, xs, n, rfl, hs, hn, ha, ne, l1, l2, q⟩ := h
    refine ⟨_, pss_one (ps_ret (pe_ix ix_list (pv 1) (pe_c D hr (pa_cons (pv 0) (pa_cons (pe_callB call_len_seq (by rfl) M.len PySem.boot_len (pa_cons (pv 1) pa_nil)) pa_nil))) (fun _ _ => rfl))), ?_⟩
    refine ⟨_, rfl, _, rfl, _, rfl, a, _, rfl, .inl (SqL.of ha), sa, _, n, rfl, hs, hn, by omega, by omega, fun H1 r b1 h1 r0 r1 => ?_⟩
    have hlt : r.toNat < xs.length := by omega
    have e : r = ((r.toNat : Nat) : Int) := by omega
    refine ⟨a, xs, r, xs[r.toNat], rfl, rfl, SqL.of (b1 _ _ ha ne), ?_, q H1 _ b1 h1 (List.getElem_mem hlt)⟩
    have z := atI_nat (List.getElem?_eq_getElem hlt)
    rw [← e] at z
    exact z
/-! ### _law_handed -/
theorem sc_hand : FnScope ["_law_source_here", "_law_codes"] ["_law_source_here", "_law_codes"] (defScope s_law_handed) := ⟨rfl, rfl, rfl, by decide +kernel, rfl, by decide +kernel, by decide +kernel⟩
def spHand : Sp := fun vs H Q _ => ∃ (s a : Addr) (xs : List V) (n : Nat), vs = [.ref s, .ref a] ∧ SrcAt H s n ∧ n ≤ 1000000 ∧ H a = some (.lst xs) ∧
  ∀ (H' : Hp) (p : Addr), But s H H' → SrcAt H' s (n + 1) → (H' p = some (.lst xs) ∨ H' p = some (.tup xs)) → Q (.ref p) H'
theorem ok_hand (F : FD K d_law_handed f fd) (g : mg "_law_handed" = some (.ref f)) (M : Mo mg) (D : Cal P w K mg base "_law_draw" 1 ["_law_source_here", "_law_many"] [] spDraw) : Cal P w K mg base "_law_handed" 2 ["_law_source_here", "_law_codes"] [] spHand := by
  refine cal0 F g (ok0 F sc_hand (fun vs H Q E h => ?_) fun cdv A outer s H vs Q E ec hr h => ?_) fun _ _ _ _ _ _ us hl => match us, hl with | [_, _], _ => rfl
  · obtain ⟨_, _, _, _, rfl, _⟩ := h
    rfl
  · obtain ⟨sa, a, xs, n, rfl, hs, hn, ha, q⟩ := h
    refine ⟨_, pss_one (ps_ret (pe_ix ix_list (pe_lst (pa_cons (pe_callTy call_tupA (by rfl) M.tuple b_tuple (pa_cons (pv 1) pa_nil)) (pa_cons (pe_callTy call_list_of (by rfl) M.list b_list (pa_cons (pv 1) pa_nil)) pa_nil))) (pe_c D hr (pa_cons (pv 0) (pa_cons pe_int pa_nil))) (fun _ _ => rfl))), ?_⟩
    refine ⟨_, rfl, a, xs, rfl, .inl ha, fun H1 t s1 ht => ?_⟩
    refine ⟨_, rfl, a, xs, rfl, .inl (SqL.of (s1 _ _ ha)), fun l nl => ⟨by show 2 ≤ sizeLine; decide, fun p np => ?_⟩⟩
    have s2 : Same H1 (upd H1 l (.lst xs)) := Same.upd nl
    have s3 : Same (upd H1 l (.lst xs)) (upd (upd H1 l (.lst xs)) p (.lst [.ref t, .ref l])) := Same.upd np
    have s13 := s2.trans s3
    refine ⟨_, rfl, sa, 2, n, rfl, hs.same (s1.trans s13), hn, by decide, by decide, fun H2 r b2 h2 r0 r1 => ?_⟩
    obtain ⟨_, _, _, hs0, _⟩ := hs
    have hs3 := s13 _ _ (s1 _ _ hs0)
    have nps : p ≠ sa := fun z => by
      subst z
      have := s2 _ _ (s1 _ _ hs0)
      rw [np] at this
      cases this
    have hp2 := b2 _ _ upd_same nps
    have hl2 : H2 l = some (.lst xs) := b2 _ _ (s3 _ _ upd_same) (fun z => by
      subst z
      have := s1 _ _ hs0
      rw [nl] at this
      cases this)
    have ht2 : H2 t = some (.tup xs) := b2 _ _ (s13 _ _ ht) (ne_of (s13 _ _ ht) hs3 (by intro z; cases z))
    have b := (But.same (s1.trans s13)).trans b2
    have e01 : r = 0 ∨ r = 1 := by omega
    rcases e01 with rfl | rfl
    · exact ⟨p, _, 0, _, rfl, rfl, SqL.of hp2, rfl, q H2 t b h2 (.inr ht2)⟩
    · exact ⟨p, _, 1, _, rfl, rfl, SqL.of hp2, rfl, q H2 l b h2 (.inl hl2)⟩
/-! ### _law_shuffled -/
theorem sc_shuf : FnScope ["_law_source_here", "_law_things", "_law_left", "_law_found"] ["_law_source_here", "_law_things"] (defScope s_law_shuffled) := ⟨rfl, rfl, rfl, by decide +kernel, rfl, by decide +kernel, by decide +kernel⟩
def spShuf : Sp := fun vs H Q _ => ∃ (s a : Addr) (xs : List Int) (n : Nat), vs = [.ref s, .ref a] ∧ SrcAt H s n ∧ n ≤ 100000 ∧ H a = some (.lst (xs.map V.int)) ∧ xs.length ≤ 1000 ∧
  ∀ (H' : Hp) (p : Addr) (ys : List Int), But s H H' → SrcAt H' s (n + xs.length) → H' p = some (.lst (ys.map V.int)) → ys.Perm xs → H p = none → Q (.ref p) H'
theorem seqIndex_nat {n : Nat} {r : Int} (h0 : 0 ≤ r) (h1 : r < n) : seqIndex? r n = some r.toNat := by
  have e : r = ((r.toNat : Nat) : Int) := by omega
  have hlt : r.toNat < (List.replicate n ()).length := by rw [List.length_replicate]; omega
  have z := atI_nat (List.getElem?_eq_getElem hlt)
  rw [← e] at z
  obtain ⟨j, e1, e2, e3, _⟩ := atI_get z
  rw [List.length_replicate] at e1
  obtain ⟨hj, _, _, _⟩ := ixN_seq (n := n) (i := r) (j := r.toNat) (by unfold ixN; rw [if_pos h0, if_pos h1])
  exact hj
theorem erase_perm : ∀ (ls : List Int) (j : Nat) (h : j < ls.length), (ls[j] :: ls.eraseIdx j).Perm ls
  | x :: ls, 0, _ => List.Perm.refl _
  | x :: ls, j + 1, h => by
    have ih := erase_perm ls j (Nat.lt_of_succ_lt_succ h)
    show (ls[j]'(Nat.lt_of_succ_lt_succ h) :: x :: ls.eraseIdx j).Perm (x :: ls)
    exact (List.Perm.swap _ _ _).trans (ih.cons x)
theorem erase_map (f : Int → V) : ∀ (ls : List Int) (j : Nat), (ls.map f).eraseIdx j = (ls.eraseIdx j).map f
  | [], _ => rfl
  | x :: ls, 0 => rfl
  | x :: ls, j + 1 => by
    show f x :: (ls.map f).eraseIdx j = f x :: (ls.eraseIdx j).map f
    rw [erase_map f ls j]
theorem perm_erase {xs ls fs : List Int} {j : Nat} {y : Int} (h : (fs ++ ls).Perm xs) (hy : ls[j]? = some y) : ((fs ++ [y]) ++ ls.eraseIdx j).Perm xs := by
  refine List.Perm.trans ?_ h
  rw [List.append_assoc]
  refine List.Perm.append_left fs ?_
  obtain ⟨hl, e⟩ := List.getElem?_eq_some_iff.mp hy
  have z := erase_perm ls j hl
  rw [e] at z
  exact z
theorem ok_shuf (F : FD K d_law_shuffled f fd) (g : mg "_law_shuffled" = some (.ref f)) (M : Mo mg) (D : Cal P w K mg base "_law_draw" 1 ["_law_source_here", "_law_many"] [] spDraw) : Cal P w K mg base "_law_shuffled" 2 ["_law_source_here", "_law_things"] [] spShuf := by
  refine cal0 F g (ok0 F sc_shuf (fun vs H Q E h => ?_) fun cdv A outer s H vs Q E ec hr h => ?_) fun _ _ _ _ _ _ us hl => match us, hl with | [_, _], _ => rfl
  · obtain ⟨_, _, _, _, rfl, _⟩ := h
    rfl
  · obtain ⟨sa, a, xs, n, rfl, hs, hn, ha, hx, q⟩ := h
    refine ⟨_, pss_cons (ps_par (i := 2) (j := 3) rfl sc_shuf.nd rfl rfl (by decide) rfl rfl (pa_cons (pe_callTy call_list_of (by rfl) M.list b_list (pa_cons (pv 1) pa_nil)) (pa_cons (pe_lst pa_nil) pa_nil)) (by rfl))
      (pss_cons (ps_while PassesOwn.never (pt_cmpR (op_neN (hu64 hr)) (pv 2) (pe_lst pa_nil) (nomark _))
        (pss_one (ps_expr (pe_bm PySem.F.plainAttrs_list PySem.F.slot_list_append PySem.F.type_list_append mt_append (pv 3) (pa_cons (pe_bm PySem.F.plainAttrs_list PySem.F.slot_list_pop PySem.F.type_list_pop mt_popAt (pv 2) (pa_cons (pe_c D hr (pa_cons (pv 0) (pa_cons (pe_callB call_len_seq (by rfl) M.len PySem.boot_len (pa_cons (pv 2) pa_nil)) pa_nil))) pa_nil)) pa_nil)))))
      (pss_one (ps_ret (pv 3)))), ?_⟩
    refine ⟨_, rfl, a, _, rfl, .inl (SqL.of ha), fun L nL => ⟨by show 0 ≤ sizeLine; decide, fun Fd nF => ⟨_, _, rfl, ?_⟩⟩⟩
    have s1 : Same H (upd H L (.lst (xs.map V.int))) := Same.upd nL
    have s2 : Same (upd H L (.lst (xs.map V.int))) (upd (upd H L (.lst (xs.map V.int))) Fd (.lst [])) := Same.upd nF
    have hs0 := hs
    obtain ⟨_, _, _, hsh, _⟩ := hs0
    have nLs : L ≠ sa := fun z => by subst z; rw [nL] at hsh; cases hsh
    have nFH : H Fd = none := s1.free nF
    have nFs : Fd ≠ sa := fun z => by subst z; rw [nFH] at hsh; cases hsh
    have nLF : L ≠ Fd := ne_of_none upd_same nF
    refine ⟨fun m σ3 H3 => ∃ ls fs : List Int, m = ls.length ∧ σ3 = [some (.ref sa), some (.ref a), some (.ref L), some (.ref Fd)] ∧ (∀ b o, H b = some o → b ≠ sa → H3 b = some o) ∧ H3 L = some (.lst (ls.map V.int)) ∧ H3 Fd = some (.lst (fs.map V.int)) ∧ (fs ++ ls).Perm xs ∧ SrcAt H3 sa (n + fs.length),
      ⟨_, xs, [], rfl, rfl, fun b o e _ => s2 _ _ (s1 _ _ e), s2 _ _ upd_same, upd_same, List.Perm.refl _, (hs.same (s1.trans s2)).mono (Nat.le_add_right _ _)⟩, ?_⟩
    rintro m σ3 H3 ⟨ls, fs, rfl, rfl, b3, hL3, hF3, hp3, hs3⟩
    refine ⟨_, rfl, by show 0 ≤ sizeLine; decide, fun p np => ?_⟩
    have s4 : Same H3 (upd H3 p (.lst [])) := Same.upd np
    have hlen := hp3.length_eq
    rw [List.length_append] at hlen
    refine ⟨L, p, ls, rfl, rfl, SqL.of (s4 _ _ hL3), SqL.of upd_same, _, rfl, ?_⟩
    cases ls with
    | nil =>
      rw [List.append_nil] at hp3
      refine iteF ⟨_, rfl, q _ Fd fs (fun b o e n => s4 _ _ (b3 _ _ e n)) ?_ (s4 _ _ hF3) hp3 nFH⟩
      exact (hs3.same s4).mono (by rw [hp3.length_eq]; exact Nat.le_refl _)
    | cons y0 ls0 =>
      refine iteT ⟨fun σ' H' => ∃ ls fs : List Int, ls.length < (y0 :: ls0).length ∧ σ' = [some (.ref sa), some (.ref a), some (.ref L), some (.ref Fd)] ∧ (∀ b o, H b = some o → b ≠ sa → H' b = some o) ∧ H' L = some (.lst (ls.map V.int)) ∧ H' Fd = some (.lst (fs.map V.int)) ∧ (fs ++ ls).Perm xs ∧ SrcAt H' sa (n + fs.length), ?_, ?_⟩
      · rintro σ' H' ⟨ls, fs, h1, h2⟩
        exact ⟨ls.length, h1, ls, fs, rfl, h2⟩
      · have hL4 := s4 _ _ hL3
        have hF4 := s4 _ _ hF3
        rw [List.length_cons] at hlen
        refine ⟨_, rfl, .inl ⟨rfl, _, SqL.of hF4⟩, _, rfl, .inl ⟨rfl, _, SqL.of hL4⟩, _, rfl, _, rfl, L, _, rfl, .inl (SqL.of hL4), sa, _, n + fs.length, rfl, hs3.same s4, by omega, by rw [List.length_map, List.length_cons]; omega, by rw [List.length_map, List.length_cons]; omega, fun H5 r b5 h5 r0 r1 => ?_⟩
        have hL5 := b5 _ _ hL4 nLs
        have hF5 := b5 _ _ hF4 nFs
        have hlt : r.toNat < (y0 :: ls0).length := by rw [List.length_map] at r1; omega
        have hy : (y0 :: ls0)[r.toNat]? = some (y0 :: ls0)[r.toNat] := List.getElem?_eq_getElem hlt
        refine ⟨L, _, r, r.toNat, .int (y0 :: ls0)[r.toNat], rfl, rfl, hL5, by omega, by rw [List.length_map, List.length_cons] at r1; omega, seqIndex_nat r0 r1, by rw [List.getElem?_map, hy]; rfl, ?_⟩
        refine ⟨Fd, _, _, rfl, rfl, by rw [upd_ne (Ne.symm nLF)]; exact hF5, by rw [List.length_map, sizeLine_eq]; omega, (y0 :: ls0).eraseIdx r.toNat, fs ++ [(y0 :: ls0)[r.toNat]], ?_, rfl, ?_, ?_, ?_, perm_erase hp3 hy, ?_⟩
        · rw [List.length_eraseIdx_of_lt hlt]
          rw [List.length_cons]
          omega
        · intro b o e ne
          rw [upd_ne (fun z => by subst z; rw [nFH] at e; cases e), upd_ne (ne_of_none e nL)]
          exact b5 _ _ (s4 _ _ (b3 _ _ e ne)) ne
        · rw [upd_ne nLF, upd_same]
          rw [erase_map]
        · rw [upd_same, List.map_append]
          rfl
        · obtain ⟨d, x, k, e1, e2⟩ := h5
          refine ⟨d, x, k, by rw [upd_ne (Ne.symm nFs), upd_ne (Ne.symm nLs)]; exact e1, ?_⟩
          rw [List.length_append, List.length_singleton]
          exact e2
end K58


set_option Elab.async false
set_option linter.all false
set_option maxRecDepth 100000
set_option maxHeartbeats 8000000
namespace K58
open PySem PySem.Spec PyProof.Rows L2
variable {P : Program} {w : World} {K : PySem.W.Frag} {mg : Str → Option Value} {base : Heap} {f : Addr} {fd : FuncData}
theorem EntAt.src {s : Addr} {n : Nat} {H H' : Hp} {v : V} {e : Ent} (h : EntAt H v e) (hs : SrcAt H s n) (x : But s H H') : EntAt H' v e := by
  cases e with
  | hole => exact h
  | code c => exact h
  | txt cs =>
    obtain ⟨a, e1, e2, e3, e4⟩ := h
    obtain ⟨d, x', k, hl, _⟩ := hs
    have na : a ≠ s := fun z => by
      subst z
      rcases e2 with e2 | e2
      · rw [hl] at e2
        injection e2 with e2
        injection e2 with e2
        have := congrArg List.length e2
        rw [List.length_map] at this
        simp only [List.length_cons, List.length_nil] at this
        omega
      · rw [hl] at e2
        cases e2
    exact ⟨a, e1, e2.elim (fun z => .inl (x _ _ z na)) (fun z => .inr (x _ _ z na)), e3, e4⟩
theorem EntAt.up {D : Addr} {H : Hp} {v : V} {e : Ent} {o : HO} (h : EntAt H v e) (n : v ≠ .ref D) : EntAt (upd H D o) v e := by
  cases e with
  | hole => exact h
  | code c => exact h
  | txt cs =>
    obtain ⟨a, e1, e2, e3⟩ := h
    have na : a ≠ D := fun z => n (by rw [e1, z])
    exact ⟨a, e1, e2.elim (fun z => .inl (by rw [upd_ne na]; exact z)) (fun z => .inr (by rw [upd_ne na]; exact z)), e3⟩
/-! ### _law_entry -/
theorem sc_entry : FnScope ["_law_source_here", "_law_some_here"] ["_law_source_here"] (defScope s_law_entry) := ⟨rfl, rfl, rfl, by decide +kernel, rfl, by decide +kernel, by decide +kernel⟩
def spEntry : Sp := fun vs H Q _ => ∃ (s : Addr) (n : Nat), vs = [.ref s] ∧ SrcAt H s n ∧ n ≤ 1000000 ∧ ∀ (H' : Hp) (v : V) (e : Ent), But s H H' → SrcAt H' s (n + 1) → (∀ a, v = .ref a → H a = none) → EntAt H' v e → Q v H'
theorem ok_entry (F : FD K d_law_entry f fd) (g : mg "_law_entry" = some (.ref f)) (M : Mo mg) (PK : Cal P w K mg base "_law_pick" 2 ["_law_source_here", "_law_some_here"] [] spPick) : Cal P w K mg base "_law_entry" 3 ["_law_source_here"] [] spEntry := by
  refine cal0 F g (ok0 F sc_entry (fun vs H Q E h => ?_) fun cdv A outer s H vs Q E ec hr h => ?_) fun _ _ _ _ _ _ us hl => match us, hl with | [_], _ => rfl
  · obtain ⟨_, _, rfl, _⟩ := h
    rfl
  · obtain ⟨sa, n, rfl, hs, hn, q⟩ := h
    refine ⟨_, pss_cons (ps_set (i := 1) sc_entry.nd rfl (.inl rfl) (pe_lst (pa_cons pe_int (pa_cons pe_int (pa_cons pe_int (pa_cons pe_int (pa_cons pe_int (pa_cons pe_int (pa_cons pe_int (pa_cons pe_int (pa_cons pe_int (pa_cons pe_int (pa_cons pe_int (pa_cons pe_non (pa_cons pe_non
      (pa_cons (pe_tup pa_nil) (pa_cons (pe_tup (pa_cons pe_int pa_nil)) (pa_cons (pe_tup (pa_cons pe_int (pa_cons pe_int pa_nil))) (pa_cons (pe_lst (pa_cons pe_int (pa_cons pe_int pa_nil))) pa_nil)))))))))))))))))))
      (pss_one (ps_ret (pe_c PK hr (pa_cons (pv 0) (pa_cons (pv 1) pa_nil))))), ?_⟩
    have hs0 := hs
    obtain ⟨_, _, _, hsh, _⟩ := hs0
    refine ⟨by show 0 ≤ sizeLine; decide, fun t1 n1 => ⟨by show 1 ≤ sizeLine; decide, fun t2 n2 => ⟨by show 2 ≤ sizeLine; decide, fun t3 n3 => ⟨by show 2 ≤ sizeLine; decide, fun t4 n4 => ⟨by show 17 ≤ sizeLine; decide, fun L nL => ?_⟩⟩⟩⟩⟩
    have s1 : Same H (upd H t1 (.tup [])) := Same.upd n1
    have s2 := s1.trans (Same.upd (o := .tup [.int 97]) n2)
    have s3 := s2.trans (Same.upd (o := .tup [.int 97, .int 8364]) n3)
    have s4 := s3.trans (Same.upd (o := .lst [.int 98, .int 99]) n4)
    have s5 := s4.trans (Same.upd (o := .lst [.int 65, .int 97, .int 98, .int 128, .int 233, .int 8364, .int 56448, .int 55296, .int 1114111, .int 0, .int 63, .non, .non, .ref t1, .ref t2, .ref t3, .ref t4]) nL)
    have f2 := s1.free n2
    have f3 := s2.free n3
    have f4 := s3.free n4
    have fL := s4.free nL
    have ns : ∀ {t : Addr}, H t = none → t ≠ sa := fun h z => by subst z; rw [h] at hsh; cases hsh
    have t1o : (upd (upd (upd (upd (upd H t1 (.tup [])) t2 (.tup [.int 97])) t3 (.tup [.int 97, .int 8364])) t4 (.lst [.int 98, .int 99])) L (.lst [.int 65, .int 97, .int 98, .int 128, .int 233, .int 8364, .int 56448, .int 55296, .int 1114111, .int 0, .int 63, .non, .non, .ref t1, .ref t2, .ref t3, .ref t4])) t1 = some (.tup []) :=
      Same.upd nL _ _ (Same.upd n4 _ _ (Same.upd n3 _ _ (Same.upd n2 _ _ upd_same)))
    have t2o : (upd (upd (upd (upd (upd H t1 (.tup [])) t2 (.tup [.int 97])) t3 (.tup [.int 97, .int 8364])) t4 (.lst [.int 98, .int 99])) L (.lst [.int 65, .int 97, .int 98, .int 128, .int 233, .int 8364, .int 56448, .int 55296, .int 1114111, .int 0, .int 63, .non, .non, .ref t1, .ref t2, .ref t3, .ref t4])) t2 = some (.tup [.int 97]) :=
      Same.upd nL _ _ (Same.upd n4 _ _ (Same.upd n3 _ _ upd_same))
    have t3o : (upd (upd (upd (upd (upd H t1 (.tup [])) t2 (.tup [.int 97])) t3 (.tup [.int 97, .int 8364])) t4 (.lst [.int 98, .int 99])) L (.lst [.int 65, .int 97, .int 98, .int 128, .int 233, .int 8364, .int 56448, .int 55296, .int 1114111, .int 0, .int 63, .non, .non, .ref t1, .ref t2, .ref t3, .ref t4])) t3 = some (.tup [.int 97, .int 8364]) :=
      Same.upd nL _ _ (Same.upd n4 _ _ upd_same)
    have t4o : (upd (upd (upd (upd (upd H t1 (.tup [])) t2 (.tup [.int 97])) t3 (.tup [.int 97, .int 8364])) t4 (.lst [.int 98, .int 99])) L (.lst [.int 65, .int 97, .int 98, .int 128, .int 233, .int 8364, .int 56448, .int 55296, .int 1114111, .int 0, .int 63, .non, .non, .ref t1, .ref t2, .ref t3, .ref t4])) t4 = some (.lst [.int 98, .int 99]) :=
      Same.upd nL _ _ upd_same
    refine ⟨_, rfl, _, rfl, sa, L, _, n, rfl, hs.same s5, hn, upd_same, ns fL, by show 1 ≤ 17; decide, by show 17 ≤ 1000; decide, fun H' x b h hx => ?_⟩
    have B : But sa H H' := (But.same s5).trans b
    have code : ∀ c : Int, 0 ≤ c → c ≤ 1114111 → Q (.int c) H' := fun c h0 h1 => q H' _ (.code c) B h (fun a z => by cases z) ⟨rfl, h0, h1⟩
    have txt : ∀ (t : Addr) (cs : List Int), H t = none → (H' t = some (.lst (cs.map V.int)) ∨ H' t = some (.tup (cs.map V.int))) → (∀ c ∈ cs, 0 ≤ c ∧ c ≤ 1114111) → cs.length ≤ 2 → Q (.ref t) H' := fun t cs nt ht hc hl => q H' _ (.txt cs) B h (fun a z => by cases z; exact nt) ⟨t, rfl, ht, hc, hl⟩
    simp only [List.mem_cons, List.not_mem_nil, or_false] at hx
    rcases hx with rfl | rfl | rfl | rfl | rfl | rfl | rfl | rfl | rfl | rfl | rfl | rfl | rfl | rfl | rfl | rfl | rfl
    · exact code _ (by decide) (by decide)
    · exact code _ (by decide) (by decide)
    · exact code _ (by decide) (by decide)
    · exact code _ (by decide) (by decide)
    · exact code _ (by decide) (by decide)
    · exact code _ (by decide) (by decide)
    · exact code _ (by decide) (by decide)
    · exact code _ (by decide) (by decide)
    · exact code _ (by decide) (by decide)
    · exact code _ (by decide) (by decide)
    · exact code _ (by decide) (by decide)
    · exact q H' _ .hole B h (fun a z => by cases z) rfl
    · exact q H' _ .hole B h (fun a z => by cases z) rfl
    · exact txt t1 [] n1 (.inr (b _ _ t1o (ns n1))) (fun c hc => absurd hc List.not_mem_nil) (by decide)
    · exact txt t2 [97] f2 (.inr (b _ _ t2o (ns f2))) (by decide) (by decide)
    · exact txt t3 [97, 8364] f3 (.inr (b _ _ t3o (ns f3))) (by decide) (by decide)
    · exact txt t4 [98, 99] f4 (.inl (b _ _ t4o (ns f4))) (by decide) (by decide)
/-! ### dicts of pairs -/
theorem val_none {kvs : List (Key × V)} {k : Key} (h : ∀ p ∈ kvs, p.1 ≠ k) : valV kvs k = none := by
  induction kvs with
  | nil => rfl
  | cons p r ih =>
    rw [valV_neg (h p List.mem_cons_self)]
    exact ih fun q hq => h q (List.mem_cons_of_mem _ hq)
theorem merge_new : ∀ (l acc : List (Key × V)), ((acc ++ l).map (·.1)).Nodup → mergeK acc l = acc ++ l
  | [], acc, _ => by rw [List.append_nil]; rfl
  | p :: l, acc, nd => by
    have e : acc ++ p :: l = (acc ++ [p]) ++ l := by rw [List.append_assoc]; rfl
    have hn : valV acc p.1 = none := val_none fun q hq z => by
      rw [List.map_append, List.nodup_append] at nd
      exact nd.2.2 q.1 (List.mem_map_of_mem hq) p.1 (by rw [List.map_cons]; exact List.mem_cons_self) z
    show mergeK (putK acc p.1 p.2) l = acc ++ p :: l
    rw [putK_new p.2 hn, e]
    exact merge_new l _ (by rw [← e]; exact nd)
def mapE (l : List (Int × V)) : List (Key × V) := l.map fun q => (Sum.inl q.1, q.2)
theorem nodup_mapE {l : List (Int × V)} (nd : (l.map (·.1)).Nodup) : ((mapE l).map (·.1)).Nodup := by
  unfold mapE
  rw [List.map_map]
  have e : (((fun x : Key × V => x.1) ∘ fun q : Int × V => ((Sum.inl q.1 : Key), q.2))) = (fun z : Int => (Sum.inl z : Key)) ∘ (fun q : Int × V => q.1) := rfl
  rw [e, ← List.map_map]
  exact List.Pairwise.map _ (fun a b h z => h (Sum.inl.inj z)) nd
theorem merge_mapE {l : List (Int × V)} (nd : (l.map (·.1)).Nodup) : mergeK [] (mapE l) = mapE l := merge_new _ [] (nodup_mapE nd)
theorem paired_of {α β : Type} {F : α → β → Prop} : ∀ (l1 : List α) (l2 : List β), l1.length = l2.length → (∀ (j : Nat) (a : α) (b : β), l1[j]? = some a → l2[j]? = some b → F a b) → Paired F l1 l2
  | [], [], _, _ => .nil
  | a :: l1, b :: l2, e, h => .cons (h 0 a b rfl rfl) (paired_of l1 l2 (Nat.succ.inj e) fun j x y h1 h2 => h (j + 1) x y h1 h2)
theorem paired_at {α β : Type} {F : α → β → Prop} {l1 : List α} {l2 : List β} (h : Paired F l1 l2) : ∀ (j : Nat) (a : α) (b : β), l1[j]? = some a → l2[j]? = some b → F a b := by
  induction h with
  | nil => intro j a b h1; simp at h1
  | cons h t ih =>
    intro j a b h1 h2
    cases j with
    | zero =>
      have e1 := Option.some.inj h1
      have e2 := Option.some.inj h2
      subst e1 e2
      exact h
    | succ j => exact ih j a b h1 h2
theorem PrsL.pairs {H : Hp} {D : Addr} {ts : List Addr} {prs : List (Int × V)} (h : PrsL H D ts prs) : Paired (fun p kv => SqT K H p [kV kv.1, kv.2]) ts (mapE prs) := by
  refine paired_of _ _ (by unfold mapE; rw [List.length_map]; exact h.len) fun j a b h1 h2 => ?_
  unfold mapE at h2
  rw [List.getElem?_map] at h2
  cases z : prs[j]? with
  | none => rw [z] at h2; cases h2
  | some q =>
    rw [z] at h2
    have e := Option.some.inj h2
    subst e
    exact SqT.of (h.at_ j a q h1 z)
theorem SrcAt.up {s D : Addr} {H : Hp} {n : Nat} {o : HO} (h : SrcAt H s n) (ne : s ≠ D) : SrcAt (upd H D o) s n := by
  obtain ⟨d, x, k, a, b⟩ := h
  exact ⟨d, x, k, by rw [upd_ne ne]; exact a, b⟩
theorem prs_snoc {H H' : Hp} {D : Addr} {ts : List Addr} {prs : List (Int × V)} {t : Addr} {q : Int × V} (h : PrsL H D ts prs) (old : ∀ (t' : Addr) (xs : List V), H t' = some (.tup xs) → H' t' = some (.tup xs))
    (ht : H' t = some (.tup [.int q.1, q.2])) (hD : H' D = some (.lst ((ts ++ [t]).map V.ref))) : PrsL H' D (ts ++ [t]) (prs ++ [q]) := by
  refine ⟨hD, by rw [List.length_append, List.length_append, h.len]; rfl, fun j t' q' h1 h2 => ?_⟩
  by_cases hj : j < ts.length
  · rw [List.getElem?_append_left hj] at h1
    rw [List.getElem?_append_left (by rw [← h.len]; exact hj)] at h2
    exact old t' _ (h.at_ j t' q' h1 h2)
  · have hjl : j < (ts ++ [t]).length := (List.getElem?_eq_some_iff.mp h1).1
    rw [List.length_append, List.length_singleton] at hjl
    have ej : j = ts.length := by omega
    subst ej
    rw [List.getElem?_append_right (Nat.le_refl _), Nat.sub_self] at h1
    have e1 : t = t' := Option.some.inj h1
    subst e1
    rw [h.len, List.getElem?_append_right (Nat.le_refl _), Nat.sub_self] at h2
    have e2 : q = q' := Option.some.inj h2
    subst e2
    exact ht
theorem cut_take (ys : List Int) {r : Int} (h : 0 ≤ r) : cutV (ys.map V.int) none (some r) = (ys.take (min r.toNat ys.length)).map V.int := by
  unfold cutV
  have e : r = ((r.toNat : Nat) : Int) := by omega
  rw [e, HT.sIx_none, HT.sIx_nat, List.drop_zero, Nat.sub_zero, List.length_map, List.map_take, Int.toNat_natCast]
/-! ### _law_charmap_table -/
theorem sc_table : FnScope ["_law_source_here", "_law_row", "_law_k", "_law_some_here", "_law_octet"] ["_law_source_here"] (defScope s_law_charmap_table) := ⟨rfl, rfl, rfl, by decide +kernel, rfl, by decide +kernel, by decide +kernel⟩
def spTable : Sp := fun vs H Q _ => ∃ (s : Addr) (n : Nat), vs = [.ref s] ∧ SrcAt H s n ∧ n ≤ 10000 ∧ ∀ (H' : Hp) (p : Addr) (prs : List (Int × V)), But s H H' → SrcAt H' s (n + 600) → TabAt H' p prs → GoodP H' prs → Q (.ref p) H'
theorem good_enum {H : Hp} {es : List V} (hl : es.length ≤ 256) (h : ∀ v ∈ es, ∃ e, EntAt H v e) : GoodP H (enumI 0 es) := by
  refine ⟨by rw [enumI_len]; exact hl, enumI_nodup 0 es, fun q hq => ?_⟩
  obtain ⟨j, hj⟩ := List.mem_iff_getElem?.mp hq
  rw [enumI_get] at hj
  cases z : es[j]? with
  | none => rw [z] at hj; cases hj
  | some v =>
    rw [z] at hj
    have e : (((0 + j : Nat) : Int), v) = q := Option.some.inj hj
    subst e
    have := (List.getElem?_eq_some_iff.mp z).1
    exact ⟨by omega, by dsimp only; omega, h v (List.mem_of_getElem? z)⟩
theorem ok_table (F : FD K d_law_charmap_table f fd) (g : mg "_law_charmap_table" = some (.ref f)) (M : Mo mg) (D : Cal P w K mg base "_law_draw" 1 ["_law_source_here", "_law_many"] [] spDraw) (HD : Cal P w K mg base "_law_handed" 2 ["_law_source_here", "_law_codes"] [] spHand)
    (SH : Cal P w K mg base "_law_shuffled" 2 ["_law_source_here", "_law_things"] [] spShuf) (EN : Cal P w K mg base "_law_entry" 3 ["_law_source_here"] [] spEntry) : Cal P w K mg base "_law_charmap_table" 4 ["_law_source_here"] [] spTable := by
  refine cal0 F g (ok0 F sc_table (fun vs H Q E h => ?_) fun cdv A outer s H vs Q E ec hr h => ?_) fun _ _ _ _ _ _ us hl => match us, hl with | [_], _ => rfl
  · obtain ⟨_, _, rfl, _⟩ := h
    rfl
  · obtain ⟨sa, n, rfl, hs, hn, q⟩ := h
    have hr1 := hr.mono (by decide : 1 ≤ 3)
    have hr2 := hr.mono (by decide : 2 ≤ 3)
    refine ⟨_, pss_cons (ps_if (pt_cmpR op_eq (pe_c D hr1 (pa_cons (pv 0) (pa_cons pe_int pa_nil))) pe_int (nomark _))
        (pss_cons (ps_setLc (i := 1) (own := [("_law_k", 2)]) (g := gName 2) (tt := tYes) rfl sc_table.nd rfl rfl (sw_true rfl rfl rfl (by decide +kernel))
            (pi_range1 (by rfl) M.range (pa_cons (pe_c D hr1 (pa_cons (pv 0) (pa_cons (pe_ix ix_list (pe_lst (pa_cons pe_int (pa_cons pe_int (pa_cons pe_int (pa_cons pe_int pa_nil))))) (pe_c D hr1 (pa_cons (pv 0) (pa_cons pe_int pa_nil))) (fun _ _ => rfl)) pa_nil))) pa_nil))
            (blkOk_by (N := ["_law_source_here", "_law_row", "_law_k", "_law_some_here", "_law_octet"]) (sc := defScope s_law_charmap_table) (by decide +kernel)) (fun _ _ _ _ _ => pg_name (i := 2) sc_table.nd rfl (Or.inl rfl)) (fun _ _ _ _ _ => pts_nil)
            (fun _ _ _ _ _ => pe_c EN hr (pa_cons (pv 0) pa_nil)))
          (pss_one (ps_ret (pe_c HD hr2 (pa_cons (pv 0) (pa_cons (pv 1) pa_nil)))))) pss_nil)
      (pss_cons (ps_set (i := 3) sc_table.nd rfl (.inl rfl) (pe_slice sl_list (pe_c SH hr2 (pa_cons (pv 0) (pa_cons (pe_lst (pa_cons pe_int (pa_cons pe_int (pa_cons pe_int (pa_cons pe_int (pa_cons pe_int (pa_cons pe_int (pa_cons pe_int (pa_cons pe_int (pa_cons pe_int (pa_cons pe_int pa_nil))))))))))) pa_nil))) po_none (po_some (pe_c D hr1 (pa_cons (pv 0) (pa_cons pe_int pa_nil))))))
      (pss_one (ps_ret (pe_callTy (call_dictP rfl) (by rfl) M.dict b_dict (pa_cons (pe_lc (own := [("_law_octet", 4)]) (g := gName 4) (tt := tYes) rfl sc_table.nd (pi_list (pv 3))
            (blkOk_by (N := ["_law_source_here", "_law_row", "_law_k", "_law_some_here", "_law_octet"]) (sc := defScope s_law_charmap_table) (by decide +kernel)) (fun _ _ _ _ _ => pg_name (i := 4) sc_table.nd rfl (Or.inl rfl)) (fun _ _ _ _ _ => pts_nil)
            (fun _ _ _ _ _ => pe_tup (pa_cons (pv 4) (pa_cons (pe_c EN hr (pa_cons (pv 0) pa_nil)) pa_nil)))) pa_nil))))), ?_⟩
    have hs0 := hs
    obtain ⟨_, _, _, hsh, _⟩ := hs0
    refine ⟨_, rfl, sa, 2, n, rfl, hs, by omega, by decide, by decide, fun H1 r b1 h1 r0 r1 => ⟨rfl, _, rfl, ite2 (fun _ => ?_) fun _ => ?_⟩⟩
    · -- a row
      refine ⟨_, rfl, ⟨by show 4 ≤ sizeLine; decide, fun l nl => ?_⟩⟩
      have s2 : Same H1 (upd H1 l (.lst [.int 8, .int 70, .int 130, .int 257])) := Same.upd nl
      refine ⟨_, rfl, sa, 4, n + 1, rfl, h1.same s2, by omega, by decide, by decide, fun H2 r2 b2 h2 r20 r21 => ?_⟩
      have hs10 := h1
      obtain ⟨_, _, _, hsh1, _⟩ := hs10
      have nls : l ≠ sa := fun z => by subst z; rw [nl] at hsh1; cases hsh1
      obtain ⟨m, hm, hm1, hm2⟩ : ∃ m : Int, atI [V.int 8, .int 70, .int 130, .int 257] r2 = some (.int m) ∧ 1 ≤ m ∧ m ≤ 257 := by
        have e : r2 = 0 ∨ r2 = 1 ∨ r2 = 2 ∨ r2 = 3 := by omega
        rcases e with rfl | rfl | rfl | rfl
        · exact ⟨8, rfl, by decide, by decide⟩
        · exact ⟨70, rfl, by decide, by decide⟩
        · exact ⟨130, rfl, by decide, by decide⟩
        · exact ⟨257, rfl, by decide, by decide⟩
      refine ⟨l, _, r2, .int m, rfl, rfl, SqL.of (b2 _ _ upd_same nls), hm, sa, m, n + 2, rfl, h2, by omega, hm1, by omega, fun H3 r3 b3 h3 r30 r31 => ?_⟩
      refine ⟨r3, rfl, by omega, by omega, fun Dd nD => ?_⟩
      have b03 : But sa H H3 := ((b1.trans (But.same s2)).trans b2).trans b3
      have hs3 := h3
      obtain ⟨_, _, _, hsh3, _⟩ := hs3
      have nDs : Dd ≠ sa := fun z => by subst z; rw [nD] at hsh3; cases hsh3
      refine lc_range (lo := 0) (n := r3.toNat) (fun i H4 => But sa H H4 ∧ SrcAt H4 sa (n + 3 + i) ∧ ∃ es : List V, es.length = i ∧ H4 Dd = some (.lst es) ∧ ∀ v ∈ es, v ≠ .ref Dd ∧ ∃ e, EntAt H4 v e)
        ⟨b03.trans (But.same (Same.upd nD)), h3.up (Ne.symm nDs), [], rfl, upd_same, fun v hv => absurd hv List.not_mem_nil⟩ ?_ ?_
      · rintro i H4 hi ⟨b4, h4, es, l4, hD4, he4⟩
        refine ⟨rfl, ?_⟩
        dsimp only [tYes]
        rw [if_pos rfl]
        refine ⟨_, rfl, sa, n + 3 + i, rfl, h4, by omega, fun H5 v e b5 h5 fr he => ?_⟩
        have nv : v ≠ .ref Dd := fun z => by
          have := fr _ z
          rw [hD4] at this
          cases this
        have nHD : ∀ b o, H b = some o → b ≠ Dd := fun b o hb z => by
          subst z
          by_cases zs : b = sa
          · exact nDs zs
          · have := b03 _ _ hb zs
            rw [nD] at this
            cases this
        refine ⟨es, b5 _ _ hD4 nDs, by rw [sizeLine_eq]; omega, fun b o hb ne => ?_, h5.up (Ne.symm nDs), es ++ [v], by rw [List.length_append, l4]; rfl, upd_same, fun v' hv' => ?_⟩
        · rw [upd_ne (nHD b o hb)]
          exact b5 _ _ (b4 _ _ hb ne) ne
        · rcases List.mem_append.mp hv' with hv' | hv'
          · obtain ⟨n1, e1, h1⟩ := he4 v' hv'
            exact ⟨n1, e1, (h1.src h4 b5).up n1⟩
          · rw [List.mem_singleton] at hv'
            subst hv'
            exact ⟨nv, e, he.up nv⟩
      · rintro H4 ⟨b4, h4, es, l4, hD4, he4⟩
        refine ⟨_, rfl, _, rfl, sa, Dd, es, _, rfl, h4, by omega, hD4, fun H6 p b6 h6 hp => ?_⟩
        refine q H6 p (enumI 0 es) (b4.trans b6) (h6.mono (by omega)) (.inl ⟨es, hp, rfl⟩) (good_enum (by omega) fun v hv => ?_)
        obtain ⟨_, e, he⟩ := he4 v hv
        exact ⟨e, he.src h4 b6⟩
    · -- a dict
      refine ⟨_, rfl, by show 10 ≤ sizeLine; decide, fun l nl => ?_⟩
      have s2 : Same H1 (upd H1 l (.lst ([0, 1, 63, 65, 97, 127, 128, 194, 254, 255].map V.int))) := Same.upd nl
      refine ⟨sa, l, [0, 1, 63, 65, 97, 127, 128, 194, 254, 255], n + 1, rfl, h1.same s2, by omega, upd_same, by decide, fun H2 p ys b2 h2 hp hperm np => ?_⟩
      have hs10 := h1
      obtain ⟨_, _, _, hsh1, _⟩ := hs10
      have nps : p ≠ sa := fun z => by subst z; cases (np.symm.trans (s2 _ _ hsh1))
      refine ⟨_, rfl, sa, 11, n + 1 + 10, rfl, h2, by omega, by decide, by decide, fun H3 r3 b3 h3 r30 r31 => ?_⟩
      refine ⟨r3, rfl, p, _, rfl, SqL.of (b3 _ _ hp nps), fun p2 np2 => ?_⟩
      generalize hz : ys.take (min r3.toNat ys.length) = zs
      have hsub : ∀ o ∈ zs, o ∈ ys := fun o ho => by rw [← hz] at ho; exact List.mem_of_mem_take ho
      have hzn : zs.Nodup := by
        rw [← hz]
        exact List.Nodup.sublist (List.take_sublist _ _) (hperm.nodup_iff.mpr (by decide))
      have hzl : zs.length ≤ 10 := by
        have := hperm.length_eq
        rw [← hz, List.length_take]
        simp only [List.length_cons, List.length_nil] at this
        omega
      have hp2 : upd H3 p2 (.lst (cutV (ys.map V.int) none (some r3))) p2 = some (.lst (zs.map V.int)) := by rw [upd_same, cut_take ys r30, hz]
      have b03 : But sa H (upd H3 p2 (.lst (cutV (ys.map V.int) none (some r3)))) := (((b1.trans (But.same s2)).trans b2).trans b3).trans (But.same (Same.upd np2))
      have hs3 := h3
      obtain ⟨_, _, _, hsh3, _⟩ := hs3
      have np2s : p2 ≠ sa := fun z => by subst z; rw [np2] at hsh3; cases hsh3
      have h3' := h3.up (o := .lst (cutV (ys.map V.int) none (some r3))) (Ne.symm np2s)
      refine ⟨_, rfl, p2, rfl, ⟨_, SqL.of hp2⟩, fun Dd nD => ?_⟩
      have nDs : Dd ≠ sa := fun z => by
        obtain ⟨_, _, _, hh, _⟩ := h3'
        subst z
        rw [nD] at hh
        cases hh
      have nDp : p2 ≠ Dd := ne_of_none hp2 nD
      have nHD : ∀ b o, H b = some o → b ≠ Dd := fun b o hb z => by
        subst z
        by_cases zs : b = sa
        · exact nDs zs
        · have := b03 _ _ hb zs
          rw [nD] at this
          cases this
      refine lc_list (K := K) (a := p2) (xs := zs.map V.int) (fun i H4 => But sa H H4 ∧ SrcAt H4 sa (n + 12 + i) ∧ H4 p2 = some (.lst (zs.map V.int)) ∧ ∃ (prs : List (Int × V)) (ts : List Addr), prs.map (·.1) = zs.take i ∧ PrsL H4 Dd ts prs ∧ ∀ q ∈ prs, q.2 ≠ .ref Dd ∧ ∃ e, EntAt H4 q.2 e)
        ⟨b03.trans (But.same (Same.upd nD)), h3'.up (Ne.symm nDs), by rw [upd_ne nDp]; exact hp2, [], [], rfl, ⟨upd_same, rfl, fun j t q h => by simp at h⟩, fun v hv => absurd hv List.not_mem_nil⟩ (fun i H4 _ h => SqL.of h.2.2.1) ?_ ?_
      · rintro i x H4 hx ⟨b4, h4, hp4, prs, ts, hk, hL, he4⟩
        rw [List.getElem?_map] at hx
        cases z : zs[i]? with
        | none => rw [z] at hx; cases hx
        | some o =>
          rw [z] at hx
          have ex : V.int o = x := Option.some.inj hx
          subst ex
          have hi := (List.getElem?_eq_some_iff.mp z).1
          have hlen : prs.length = i := by
            have := congrArg List.length hk
            rw [List.length_map, List.length_take] at this
            omega
          refine ⟨rfl, ?_⟩
          dsimp only [tYes]
          rw [if_pos rfl]
          refine ⟨_, rfl, _, rfl, sa, n + 12 + i, rfl, h4, by omega, fun H5 v e b5 h5 fr he => ⟨by show 2 ≤ sizeLine; decide, fun t nt => ?_⟩⟩
          have nv : v ≠ .ref Dd := fun z => by
            have := fr _ z
            rw [hL.lst] at this
            cases this
          have hD5 := b5 _ _ hL.lst nDs
          have nDt : Dd ≠ t := ne_of_none hD5 nt
          have hs4 := h4
          obtain ⟨_, _, _, hsh4, _⟩ := hs4
          have hs5 := h5
          obtain ⟨_, _, _, hsh5, _⟩ := hs5
          have nst : sa ≠ t := ne_of_none hsh5 nt
          refine ⟨ts.map V.ref, by rw [upd_ne nDt]; exact hD5, by rw [List.length_map, hL.len, sizeLine_eq]; omega, fun b o2 hb ne => ?_, (h5.up nst).up (Ne.symm nDs), ?_, prs ++ [(o, v)], ts ++ [t], ?_, prs_snoc hL (fun t' xs' ht' => ?_) ?_ ?_, fun q' hq' => ?_⟩
          · have z1 := b5 _ _ (b4 _ _ hb ne) ne
            rw [upd_ne (nHD b o2 hb), upd_ne (ne_of_none z1 nt)]
            exact z1
          · have z1 := b5 _ _ hp4 np2s
            rw [upd_ne nDp, upd_ne (ne_of_none z1 nt)]
            exact z1
          · rw [List.map_append, hk, List.take_add_one, z]
            rfl
          · have z1 := b5 _ _ ht' (ne_of ht' hsh4 (by intro z; cases z))
            rw [upd_ne (ne_of z1 hD5 (by intro z; cases z)), upd_ne (ne_of_none z1 nt)]
            exact z1
          · rw [upd_ne (Ne.symm nDt), upd_same]
          · rw [upd_same, List.map_append]
            rfl
          · rcases List.mem_append.mp hq' with hq' | hq'
            · obtain ⟨n1, e1, g1⟩ := he4 q' hq'
              refine ⟨n1, e1, EntAt.up ?_ n1⟩
              exact (g1.src h4 b5).ext (ExtN.same (Same.upd nt))
            · rw [List.mem_singleton] at hq'
              subst hq'
              exact ⟨nv, e, EntAt.up (he.ext (ExtN.same (Same.upd nt))) nv⟩
      · rintro H4 ⟨b4, h4, hp4, prs, ts, hk, hL, he4⟩
        rw [List.length_map, List.take_length] at hk
        have hpl : prs.length = zs.length := by rw [← hk, List.length_map]
        refine ⟨Dd, ts, mapE prs, rfl, SqL.of hL.lst, hL.pairs, fun p3 np3 => ?_⟩
        have nd : (prs.map (·.1)).Nodup := by rw [hk]; exact hzn
        have s6 := Same.upd (o := .dK (mergeK [] (mapE prs))) np3
        refine q _ p3 prs (b4.trans (But.same s6)) ((h4.same s6).mono (by rw [List.length_map]; omega)) (.inr ?_) ⟨by omega, nd, fun q' hq' => ?_⟩
        · rw [upd_same, merge_mapE nd]
          rfl
        · have ho : q'.1 ∈ zs := by rw [← hk]; exact List.mem_map_of_mem hq'
          have ho2 := hperm.mem_iff.mp (hsub _ ho)
          have hb : ∀ o ∈ ([0, 1, 63, 65, 97, 127, 128, 194, 254, 255] : List Int), 0 ≤ o ∧ o ≤ 255 := by decide
          obtain ⟨_, e, he⟩ := he4 q' hq'
          exact ⟨(hb _ ho2).1, (hb _ ho2).2, e, he.ext (ExtN.same s6)⟩
end K58


set_option Elab.async false
set_option linter.all false
set_option maxRecDepth 100000
set_option maxHeartbeats 8000000
namespace K58
open PySem PySem.Spec PyProof.Rows L2
variable {P : Program} {w : World} {K : PySem.W.Frag} {mg : Str → Option Value} {base : Heap} {f : Addr} {fd : FuncData}
/-! ### _law_some -/
theorem sc_some : FnScope ["_law_source_here", "_law_things", "_law_many", "_law_k"] ["_law_source_here", "_law_things", "_law_many"] (defScope s_law_some) := ⟨rfl, rfl, rfl, by decide +kernel, rfl, by decide +kernel, by decide +kernel⟩
def spSome : Sp := fun vs H Q _ => ∃ (s a : Addr) (xs : List Int) (n : Nat), vs = [.ref s, .ref a, .int 12] ∧ SrcAt H s n ∧ n ≤ 100000 ∧ H a = some (.lst (xs.map V.int)) ∧ a ≠ s ∧ xs.length ≤ 1000 ∧
  ∀ (H' : Hp) (p : Addr) (cs : List Int), But s H H' → SrcAt H' s (n + 20) → H' p = some (.tup (cs.map V.int)) → (∀ c ∈ cs, c ∈ xs) → cs.length ≤ 12 → Q (.ref p) H'
theorem ok_some (F : FD K d_law_some f fd) (g : mg "_law_some" = some (.ref f)) (M : Mo mg) (D : Cal P w K mg base "_law_draw" 1 ["_law_source_here", "_law_many"] [] spDraw) (PK : Cal P w K mg base "_law_pick" 2 ["_law_source_here", "_law_some_here"] [] spPick) :
    Cal P w K mg base "_law_some" 3 ["_law_source_here", "_law_things", "_law_many"] [] spSome := by
  refine cal0 F g (ok0 F sc_some (fun vs H Q E h => ?_) fun cdv A outer s H vs Q E ec hr h => ?_) fun _ _ _ _ _ _ us hl => match us, hl with | [_, _, _], _ => rfl
  · obtain ⟨_, _, _, _, rfl, _⟩ := h
    rfl
  · obtain ⟨sa, a, xs, n, rfl, hs, hn, ha, ne, hx, q⟩ := h
    have hr1 := hr.mono (by decide : 1 ≤ 2)
    have hu := hu64 hr
    refine ⟨_, pss_one (ps_ret (pe_callTy call_tupA (by rfl) M.tuple b_tuple (pa_cons (pe_lc (own := [("_law_k", 3)]) (g := gName 3) (tt := tTest (tOp (rNeN K) (tVar 1) (tLst tNil))) rfl sc_some.nd
      (pi_range1 (by rfl) M.range (pa_cons (pe_c D hr1 (pa_cons (pv 0) (pa_cons (pe_op op_add (pv 2) pe_int) pa_nil))) pa_nil))
      (blkOk_by (N := ["_law_source_here", "_law_things", "_law_many", "_law_k"]) (sc := defScope s_law_some) (by decide +kernel)) (fun _ _ _ _ _ => pg_name (i := 3) sc_some.nd rfl (Or.inl rfl))
      (fun _ _ _ _ _ => pts_one (pt_cmpR (op_neN hu) (pv 1) (pe_lst pa_nil) (nomark _))) (fun _ _ _ _ _ => pe_c PK hr (pa_cons (pv 0) (pa_cons (pv 1) pa_nil)))) pa_nil))), ?_⟩
    refine ⟨_, rfl, _, rfl, _, _, rfl, rfl, sa, 13, n, rfl, hs, by omega, by decide, by decide, fun H3 r3 b3 h3 r30 r31 => ?_⟩
    refine ⟨r3, rfl, by omega, by omega, fun Dd nD => ?_⟩
    have hs3 := h3
    obtain ⟨_, _, _, hsh3, _⟩ := hs3
    have nDs : Dd ≠ sa := fun z => by subst z; cases (nD.symm.trans hsh3)
    have nHD : ∀ b o, H b = some o → b ≠ Dd := fun b o hb z => by
      subst z
      by_cases zs : b = sa
      · exact nDs zs
      · cases (nD.symm.trans (b3 _ _ hb zs))
    refine lc_range (lo := 0) (n := r3.toNat) (fun i H4 => But sa H H4 ∧ SrcAt H4 sa (n + 1 + i) ∧ ∃ cs : List Int, cs.length ≤ i ∧ H4 Dd = some (.lst (cs.map V.int)) ∧ ∀ c ∈ cs, c ∈ xs)
      ⟨b3.trans (But.same (Same.upd nD)), h3.up (Ne.symm nDs), [], Nat.le_refl _, upd_same, fun v hv => absurd hv List.not_mem_nil⟩ ?_ ?_
    · rintro i H4 hi ⟨b4, h4, cs, l4, hD4, he4⟩
      refine ⟨rfl, _, rfl, by show 0 ≤ sizeLine; decide, fun p np => ?_⟩
      have s5 : Same H4 (upd H4 p (.lst [])) := Same.upd np
      have ha4 := b4 _ _ ha ne
      refine ⟨a, p, xs, rfl, rfl, SqL.of (s5 _ _ ha4), SqL.of upd_same, _, rfl, ?_⟩
      cases xs with
      | nil => exact iteF ⟨b4.trans (But.same s5), (h4.same s5).mono (by omega), cs, by omega, s5 _ _ hD4, he4⟩
      | cons x0 xs0 =>
        refine iteT ?_
        refine ⟨_, rfl, _, rfl, sa, a, _, n + 1 + i, rfl, h4.same s5, by omega, s5 _ _ ha4, ne, by rw [List.length_map, List.length_cons]; omega, by rw [List.length_map]; exact hx, fun H6 v b6 h6 hv => ?_⟩
        obtain ⟨c, hc, rfl⟩ := List.mem_map.mp hv
        refine ⟨cs.map V.int, b6 _ _ (s5 _ _ hD4) nDs, by rw [List.length_map, sizeLine_eq]; omega, fun b o hb nb => ?_, h6.up (Ne.symm nDs), cs ++ [c], by rw [List.length_append, List.length_singleton]; omega, by rw [upd_same, List.map_append]; rfl, fun c' hc' => ?_⟩
        · rw [upd_ne (nHD b o hb)]
          exact b6 _ _ (s5 _ _ (b4 _ _ hb nb)) nb
        · rcases List.mem_append.mp hc' with hc' | hc'
          · exact he4 c' hc'
          · rw [List.mem_singleton] at hc'
            subst hc'
            exact hc
    · rintro H4 ⟨b4, h4, cs, l4, hD4, he4⟩
      exact ⟨Dd, _, rfl, .inl hD4, fun H5 t s5 ht => q H5 t cs (b4.trans (But.same s5)) ((h4.same s5).mono (by omega)) ht he4 (by omega)⟩
/-! ### _law_entries -/
theorem sc_lent : FnScope ["_law_some_here", "_law_pairs", "_law_pair"] ["_law_some_here"] (defScope s_law_entries) := ⟨rfl, rfl, rfl, by decide +kernel, rfl, by decide +kernel, by decide +kernel⟩
/-- the pairs that are no holes -/
structure RowsOf (prs rp : List (Int × V)) : Prop where
  nd : (rp.map (·.1)).Nodup
  len : rp.length ≤ 256
  asc : rp.Pairwise (fun x y => x.1 ≤ y.1)
  mem : ∀ q, q ∈ rp ↔ q ∈ prs ∧ q.2 ≠ .non
def spLent (T : List (Addr × Str)) : Sp := fun vs H Q _ => ∃ (a : Addr) (prs : List (Int × V)), vs = [.ref a] ∧ TabAt H a prs ∧ GoodP H prs ∧ LamX.Tabs T H ∧
  ∀ (H' : Hp) (p : Addr) (rp : List (Int × V)), LamX.ExtN H H' → LamX.Tabs T H' → H' p = some (.dK (mapE rp)) → RowsOf prs rp → Q (.ref p) H'
theorem filt_take {l : List (Int × V)} {i : Nat} {q : Int × V} (f : Int × V → Bool) (h : l[i]? = some q) : (l.take (i + 1)).filter f = (l.take i).filter f ++ (if f q = true then [q] else []) := by
  rw [List.take_add_one, h, List.filter_append]
  have e : (some q).toList = [q] := rfl
  rw [e]
  congr 1
  by_cases z : f q = true
  · rw [if_pos z, List.filter_cons_of_pos z, List.filter_nil]
  · rw [if_neg z, List.filter_cons_of_neg z, List.filter_nil]
theorem ok_lent {T : List (Addr × Str)} (F : FD K d_law_entries f fd) (g : mg "_law_entries" = some (.ref f)) (M : Mo mg) (L : LT base mg T fd "_law_entries") : Cal P w K mg base "_law_entries" 2 ["_law_some_here"] [] (spLent T) := by
  obtain ⟨c, Pt, hfc, TB, hmT, hu⟩ := L.ex
  refine cal0 F g (ok0 F sc_lent (fun vs H Q E h => ?_) fun cdv A outer s H vs Q E ec hr h => ?_) fun _ _ _ _ _ _ us hl => match us, hl with | [_], _ => rfl
  · obtain ⟨_, _, rfl, _⟩ := h
    rfl
  · obtain ⟨a, prs, rfl, hT, hG, hTb, q⟩ := h
    have hcd : cdv = .ref c := ec.symm.trans hfc
    have rm : (A.deeper (envOfC d_law_entries.qual d_law_entries.scope s.heap.objs.size f cdv)).in1.in1.depth < recursionLimit := by
      have h := hr.dp
      show (A.deeper (envOfC d_law_entries.qual d_law_entries.scope s.heap.objs.size f cdv)).depth < recursionLimit
      omega
    refine ⟨_, pss_cutK (ps_set (i := 1) sc_lent.nd rfl (.inl rfl) (pe_ifExp (pt_val (pe_callB call_isiT (by rfl) M.isi b_isi (pa_cons (pv 0) (pa_cons (pe_tup (pa_cons (pe_bltn (v := .ty "list") (by rfl) M.list b_list rfl) (pa_cons (pe_bltn (v := .ty "tuple") (by rfl) M.tuple b_tuple rfl) pa_nil))) pa_nil))))
        (En58.pe_listEnum rfl (pa_cons (pv 0) pa_nil) (by rfl) M.list (by rfl) M.enum) (LiI.pe_listItems rfl (pv 0) (by rfl) M.list b_list)))
      (pss_one (ps_ret (pe_callTy (call_dictP rfl) (by rfl) M.dict b_dict (pa_cons (pe_lc (own := [("_law_pair", 2)]) (g := gName 2) (tt := tB (tNotN (tOp (rIxT K) (tVar 2) (tC (.int 1))))) rfl sc_lent.nd
        (pi_list (pe_sortLam TB hcd hmT hu ⟨⟨"_law_one", _, _, _, _, rfl, rfl, by decide, fun _ _ _ _ _ => rfl⟩, rfl, rfl, rfl⟩ rm M.sorted (pa_cons (pv 1) pa_nil)))
        (blkOk_by (N := ["_law_some_here", "_law_pairs", "_law_pair"]) (sc := defScope s_law_entries) (by decide +kernel)) (fun _ _ _ _ _ => pg_name (i := 2) sc_lent.nd rfl (Or.inl rfl))
        (fun _ _ _ _ _ => pts_one (pt_cmp (pc_notN (pe_ix ix_tup (pv 2) pe_int (fun _ _ => rfl))) rfl)) (fun _ _ _ _ _ => pv 2)) pa_nil)))), ?_⟩
    refine ⟨fun σ2 H2 => ∃ (p1 : Addr) (ts : List Addr), σ2 = [some (.ref a), some (.ref p1), none] ∧ Same H H2 ∧ PrsL H2 p1 ts prs, ?_, ?_⟩
    · refine ⟨_, rfl, by show 2 ≤ sizeLine; decide, fun p np => ?_⟩
      have s1 : Same H (upd H p (.tup [.ty "list", .ty "tuple"])) := Same.upd np
      rcases hT with ⟨es, hes, hprs⟩ | hd
      · have step : (SqL K (upd H p (.tup [.ty "list", .ty "tuple"])) a es ∨ SqT K (upd H p (.tup [.ty "list", .ty "tuple"])) a es) → ∀ (R : V → Hp → Prop), (∀ (H' : Hp) (p' : Addr) (ts : List Addr), Same H H' → PrsL H' p' ts prs → R (.ref p') H') → En58.rEnumL K (.ref a) (upd H p (.tup [.ty "list", .ty "tuple"])) R := by
          intro hq R hR
          refine ⟨a, es, rfl, hq, fun H' p' ts e1 e2 e3 e4 e5 e6 e7 => hR H' p' ts (s1.trans e1) ⟨e5, ?_, fun j t q' h1 h2 => ?_⟩⟩
          · rw [e6, hprs, enumI_len]
          · rw [hprs, enumI_get] at h2
            cases z : es[j]? with
            | none => rw [z] at h2; cases h2
            | some y =>
              rw [z] at h2
              have e : (((0 + j : Nat) : Int), y) = q' := Option.some.inj h2
              subst e
              rw [e7 j t y h1 z, Nat.zero_add]
        rcases hes with hx | hx
        · have hx' := s1 _ _ hx
          exact ⟨_, p, _, _, _, true, rfl, upd_same, .cons (.ty "list") (.cons (.ty "tuple") .nil), .base (.lst hx'), kit_lt_l, true, rfl, iteT ⟨_, rfl, _, rfl, step (.inl (SqL.of hx')) _ fun H' p' ts s2 hp => ⟨p', ts, rfl, s2, hp⟩⟩⟩
        · have hx' := s1 _ _ hx
          exact ⟨_, p, _, _, _, true, rfl, upd_same, .cons (.ty "list") (.cons (.ty "tuple") .nil), .base (.tup hx'), kit_lt_t, true, rfl, iteT ⟨_, rfl, _, rfl, step (.inr (SqT.of hx')) _ fun H' p' ts s2 hp => ⟨p', ts, rfl, s2, hp⟩⟩⟩
      · have hd' := s1 _ _ hd
        refine ⟨_, p, _, _, _, false, rfl, upd_same, .cons (.ty "list") (.cons (.ty "tuple") .nil), .base (.dK hd'), kit_lt_d, false, rfl, iteF ?_⟩
        refine ⟨_, rfl, a, _, rfl, hd', fun H' p' ts e1 e2 e3 e4 e5 e6 => ⟨p', ts, rfl, s1.trans e1, e5, ?_, fun j t q' h1 h2 => ?_⟩⟩
        · have := e6.length
          rw [List.length_map] at this
          exact this
        · exact paired_at e6 j t (Sum.inl q'.1, q'.2) h1 (by rw [List.getElem?_map, h2]; rfl)
    · rintro σ2 H2 ⟨p1, ts, rfl, s2, hL⟩
      refine ⟨_, rfl, tabs_same hTb s2, fun f' c' H4 x1 t1 n1 l1 l2 => ?_⟩
      have hL4 := hL.same x1
      refine ⟨p1, f', c', ts, prs.map (·.1), rfl, rfl, l1, l2, SqL.of hL4.lst, by rw [List.length_map, hL.len], fun j t k h1 h2 => ?_, fun ps p hp hs np => ?_⟩
      · rw [List.getElem?_map] at h2
        cases z : prs[j]? with
        | none => rw [z] at h2; cases h2
        | some q' =>
          rw [z] at h2
          have e : q'.1 = k := Option.some.inj h2
          subst e
          exact ⟨_, SqT.of (hL4.at_ j t q' h1 z)⟩
      · have ez : (prs.map (·.1)).zip ts = (prs.zip ts).map fun z => (z.1.1, z.2) := zip_fst prs ts
        obtain ⟨Z, hZ, rfl⟩ := perm_map_inv hp (prs.zip ts) ez
        have hpr : (Z.map (·.1)).Perm prs := by
          have e := hZ.map (·.1)
          rw [List.map_fst_zip (by rw [hL.len]; exact Nat.le_refl _)] at e
          exact e
        have hL5 : PrsL (upd H4 p (.lst ((Z.map fun z => (z.1.1, z.2)).map fun x => V.ref x.2))) p (Z.map (·.2)) (Z.map (·.1)) := by
          refine ⟨?_, by rw [List.length_map, List.length_map], fun j t q' h1 h2 => ?_⟩
          · rw [upd_same, List.map_map, List.map_map]
            rfl
          · rw [List.getElem?_map] at h1 h2
            cases z : Z[j]? with
            | none => rw [z] at h1; cases h1
            | some y =>
              rw [z] at h1 h2
              have e1 : y.2 = t := Option.some.inj h1
              have e2 : y.1 = q' := Option.some.inj h2
              have hm : y ∈ prs.zip ts := hZ.mem_iff.mp (List.mem_of_getElem? z)
              obtain ⟨j2, hj2⟩ := List.mem_iff_getElem?.mp hm
              rw [List.getElem?_zip_eq_some] at hj2
              have h5 := hL4.at_ j2 y.2 y.1 hj2.2 hj2.1
              rw [e1, e2] at h5
              rw [upd_ne (ne_of_none h5 np)]
              exact h5
        have hasc : (Z.map (·.1)).Pairwise (fun x y => x.1 ≤ y.1) := by
          rw [List.pairwise_map] at hs ⊢
          exact hs
        have x5 : LamX.ExtN H (upd H4 p (.lst ((Z.map fun z => (z.1.1, z.2)).map fun x => V.ref x.2))) := LamX.ExtN.trans (ExtN.same s2) (LamX.ExtN.trans x1 (ExtN.same (Same.upd np)))
        have t5 : LamX.Tabs T (upd H4 p (.lst ((Z.map fun z => (z.1.1, z.2)).map fun x => V.ref x.2))) := tabs_same t1 (Same.upd np)
        generalize hsrt : Z.map (·.1) = srt at hpr hL5 hasc
        generalize hts : Z.map (·.2) = us at hL5
        refine ⟨p, rfl, ⟨_, SqL.of hL5.lst⟩, fun Dd nD => ?_⟩
        refine lc_list (K := K) (a := p) (xs := us.map V.ref) (fun i H6 => Same (upd H4 p (.lst ((Z.map fun z => (z.1.1, z.2)).map fun x => V.ref x.2))) H6 ∧ ∃ vs : List Addr, PrsL H6 Dd vs ((srt.take i).filter fun q => !decide (q.2 = .non)))
          ⟨Same.upd nD, [], upd_same, rfl, fun j t q h => by simp at h⟩ (fun i H6 _ h => SqL.of (h.1 _ _ hL5.lst)) ?_ ?_
        · rintro i x H6 hx ⟨s6, vs, hP⟩
          rw [List.getElem?_map] at hx
          cases z : us[i]? with
          | none => rw [z] at hx; cases hx
          | some t =>
            rw [z] at hx
            have ex : V.ref t = x := Option.some.inj hx
            subst ex
            have hlt : i < srt.length := by
              rw [← hL5.len]
              exact (List.getElem?_eq_some_iff.mp z).1
            cases hq : srt[i]? with
            | none => rw [List.getElem?_eq_getElem hlt] at hq; cases hq
            | some q' =>
              obtain ⟨o, v⟩ := q'
              have ht := s6 _ _ (hL5.at_ i t _ z hq)
              have hlen : vs.length ≤ 256 := by
                rw [hP.len]
                have a1 := List.length_filter_le (fun q : Int × V => !decide (q.2 = .non)) (srt.take i)
                rw [List.length_take] at a1
                have a2 := hpr.length_eq
                have a3 := hG.len
                omega
              refine ⟨rfl, _, rfl, t, _, _, v, rfl, rfl, SqT.of ht, rfl, _, rfl, ?_⟩
              rw [filt_take _ hq]
              by_cases hv : v = .non
              · rw [decide_eq_true hv]
                refine iteF ⟨s6, vs, ?_⟩
                rw [if_neg (by decide), List.append_nil]
                exact hP
              · rw [decide_eq_false hv]
                refine iteT ⟨_, rfl, vs.map V.ref, hP.lst, by rw [List.length_map, sizeLine_eq]; omega, fun b o2 hb => ?_, vs ++ [t], ?_⟩
                · rw [upd_ne (ne_of_none hb nD)]
                  exact s6 _ _ hb
                · rw [if_pos (show (!false) = true from rfl)]
                  refine prs_snoc hP (fun t' xs' ht' => ?_) ?_ ?_
                  · rw [upd_ne (ne_of ht' hP.lst (by intro z; cases z))]
                    exact ht'
                  · rw [upd_ne (ne_of ht hP.lst (by intro z; cases z))]
                    exact ht
                  · rw [upd_same, List.map_append]
                    rfl
        · rintro H6 ⟨s6, vs, hP⟩
          rw [List.length_map, hL5.len, List.take_length] at hP
          have hG1 := hG.perm hpr
          have nd : ((srt.filter fun q => !decide (q.2 = .non)).map (·.1)).Nodup := List.Nodup.sublist (List.Sublist.map _ List.filter_sublist) hG1.nd
          refine ⟨Dd, vs, mapE _, rfl, SqL.of hP.lst, hP.pairs, fun p3 np3 => ?_⟩
          refine q _ p3 (srt.filter fun q => !decide (q.2 = .non)) (LamX.ExtN.trans x5 (ExtN.same (s6.trans (Same.upd np3)))) (tabs_same t5 (s6.trans (Same.upd np3))) ?_ ⟨nd, ?_, hasc.sublist List.filter_sublist, fun q' => ?_⟩
          · rw [upd_same, merge_mapE nd]
          · have := List.length_filter_le (fun q : Int × V => !decide (q.2 = .non)) srt
            have := hG1.len
            omega
          · rw [List.mem_filter, hpr.mem_iff]
            constructor
            · rintro ⟨a1, a2⟩
              exact ⟨a1, fun z => by rw [decide_eq_true z] at a2; cases a2⟩
            · rintro ⟨a1, a2⟩
              exact ⟨a1, by rw [decide_eq_false a2]; rfl⟩
end K58


set_option Elab.async false
set_option linter.all false
set_option maxRecDepth 100000
set_option maxHeartbeats 8000000
namespace K58
open PySem PySem.Spec PyProof.Rows L2
variable {P : Program} {w : World} {K : PySem.W.Frag} {mg : Str → Option Value} {base : Heap} {f : Addr} {fd : FuncData}
/-! ### what the law knows -/
theorem DTab.src {s : Addr} {n : Nat} {H H' : Hp} {d : Addr} {g : Int → List Int → Prop} (h : DTab H d g) (hs : SrcAt H s n) (x : But s H H') : DTab H' d g := by
  obtain ⟨kvs, a, b⟩ := h
  obtain ⟨_, _, _, hl, _⟩ := hs
  refine ⟨kvs, x _ _ a (ne_of a hl (by intro z; cases z)), fun k l q => ?_⟩
  obtain ⟨t, h1, h2⟩ := b k l q
  exact ⟨t, h1, x _ _ h2 (ne_of h2 hl (by intro z; cases z))⟩
theorem CodAt.src {s : Addr} {n : Nat} {C : Addr} {H H' : Hp} {a : Addr} {gt gb : Int → List Int → Prop} (h : CodAt C H a gt gb) (hs : SrcAt H s n) (x : But s H H') : CodAt C H' a gt gb := by
  obtain ⟨dx, dt, db, fs, rg, h0, h1, h2, h3, h4, h5, h6, h7, h8⟩ := h
  have hs' := hs
  obtain ⟨_, _, _, hl, _⟩ := hs'
  exact ⟨dx, dt, db, fs, rg, x _ _ h0 (ne_of h0 hl (by intro z; cases z)), h1, h2, h3, h4, h5, h6, h7.src hs x, h8.src hs x⟩
theorem CodAt.ext {C : Addr} {H H' : Hp} {a : Addr} {gt gb : Int → List Int → Prop} (h : CodAt C H a gt gb) (x : LamX.ExtN H H') : CodAt C H' a gt gb := by
  obtain ⟨dx, dt, db, fs, rg, h0, h1, h2, h3, h4, h5, h6, h7, h8⟩ := h
  exact ⟨dx, dt, db, fs, rg, x _ _ h0 (fun _ q => by cases q), h1, h2, h3, h4, h5, h6, h7.ext x, h8.ext x⟩
theorem CodAt.mono {C : Addr} {H : Hp} {a : Addr} {gt gb gt' gb' : Int → List Int → Prop} (h : CodAt C H a gt gb) (m : ∀ k l, gt' k l → gt k l) (m2 : ∀ k l, gb' k l → gb k l) : CodAt C H a gt' gb' := by
  obtain ⟨dx, dt, db, fs, rg, h0, h1, h2, h3, h4, h5, h6, h7, h8⟩ := h
  exact ⟨dx, dt, db, fs, rg, h0, h1, h2, h3, h4, h5, h6, h7.mono m, h8.mono m2⟩
theorem tabs_but {T : List (Addr × Str)} {s : Addr} {n : Nat} {H H' : Hp} (t : LamX.Tabs T H) (hs : SrcAt H s n) (x : But s H H') : LamX.Tabs T H' := by
  obtain ⟨_, _, _, hl, _⟩ := hs
  intro p hp
  obtain ⟨ps, e1, e2⟩ := t p hp
  exact ⟨ps, x _ _ e1 (ne_of e1 hl (by intro z; cases z)), e2.1, fun pos cv hc => by
    obtain ⟨c, e3, e4⟩ := e2.2 pos cv hc
    exact ⟨c, e3, x _ _ e4 (ne_of e4 hl (by intro z; cases z))⟩⟩
theorem RegAt.src {s : Addr} {n : Nat} {C : Addr} {H H' : Hp} {a : Addr} (h : RegAt C H a) (hs : SrcAt H s n) (x : But s H H') : RegAt C H' a := by
  obtain ⟨dx, fs, h0, h1⟩ := h
  obtain ⟨_, _, _, hl, _⟩ := hs
  exact ⟨dx, fs, x _ _ h0 (ne_of h0 hl (by intro z; cases z)), h1⟩
theorem RegAt.ext {C : Addr} {H H' : Hp} {a : Addr} (h : RegAt C H a) (x : LamX.ExtN H H') : RegAt C H' a := by
  obtain ⟨dx, fs, h0, h1⟩ := h
  exact ⟨dx, fs, x _ _ h0 (fun _ q => by cases q), h1⟩
/-- the things of a round -/
structure Dat where
  r : Addr
  s : Addr
  tb : Addr
  d1 : Addr
  d2 : Addr
  c0 : Addr
  c1 : Addr
  c2 : Addr
  c3 : Addr
  o : Addr
  k : Int
  rp : List (Int × V)
  back : List (Int × Int)
  gt : Int → List Int → Prop
  gb : Int → List Int → Prop
/-- the script, among what is written -/
def KL (K : PySem.W.Frag) (a : Addr) (xs : List Int) : Prop := ∃ (o : Obj) (its : Array Value) (n : Nat), K.lookup a = some o ∧ o.cls = .type "list" ∧ o.dict = none ∧ o.data = .seq its n ∧ its.size ≤ sizeLine ∧ Vals (xs.map V.int) its.toList
theorem Rd.but {s a : Addr} {H H' : Hp} {u : HO} (h : Rd H a u) (x : But s H H') (ne : a ≠ s) : Rd H' a u := h.elim (fun z => .inl (x _ _ z ne)) fun ⟨o, z⟩ => .inr ⟨o, x _ _ z ne⟩
theorem Rd.ext {a : Addr} {H H' : Hp} {xs : List V} (h : Rd H a (.lst xs)) (x : LamX.ExtN H H') : Rd H' a (.lst xs) := h.elim (fun z => .inl (x _ _ z (fun _ q => by cases q))) fun ⟨o, z⟩ => .inr ⟨o, x _ _ z (fun _ q => by cases q)⟩
/-- what a round of the law has at hand -/
structure Fx (K : PySem.W.Frag) (T : List (Addr × Str)) (C Cr a : Addr) (xs : List Int) (d : Dat) (n : Nat) (H : Hp) : Prop where
  scr : (a ≠ d.s ∧ Rd H a (.lst (xs.map V.int))) ∨ KL K a xs
  reg : RegAt Cr H d.r
  tabs : LamX.Tabs T H
  src : SrcAt H d.s n
  rows : H d.d1 = some (.dK (mapE d.rp))
  back : H d.d2 = some (.dK (mapB d.back))
  k0 : CodAt C H d.c0 d.gt d.gb
  k1 : CodAt C H d.c1 d.gt d.gb
  k2 : CodAt C H d.c2 (fun _ _ => False) d.gb
  k3 : CodAt C H d.c3 d.gt d.gb
  ot : H d.o = some (.lst [.ref d.c1, .ref d.c2, .ref d.c3])
  no : d.o ≠ d.s
  vals : ∀ q ∈ d.rp, ∃ e, EntAt H q.2 e
theorem Fx.but {K : PySem.W.Frag} {T : List (Addr × Str)} {C Cr a : Addr} {xs : List Int} {d : Dat} {n m : Nat} {H H' : Hp} (h : Fx K T C Cr a xs d n H) (x : But d.s H H') (hs : SrcAt H' d.s m) : Fx K T C Cr a xs d m H' := by
  have hl0 := h.src
  obtain ⟨_, _, _, hl, _⟩ := hl0
  refine ⟨h.scr.elim (fun z => .inl ⟨z.1, K58.Rd.but z.2 x z.1⟩) .inr, h.reg.src h.src x, tabs_but h.tabs h.src x, hs, x _ _ h.rows (ne_of h.rows hl (by intro z; cases z)), x _ _ h.back (ne_of h.back hl (by intro z; cases z)), h.k0.src h.src x, h.k1.src h.src x, h.k2.src h.src x, h.k3.src h.src x, x _ _ h.ot h.no, h.no, fun q hq => ?_⟩
  obtain ⟨e, he⟩ := h.vals q hq
  exact ⟨e, he.src h.src x⟩
theorem Fx.same {K : PySem.W.Frag} {T : List (Addr × Str)} {C Cr a : Addr} {xs : List Int} {d : Dat} {n : Nat} {H H' : Hp} (h : Fx K T C Cr a xs d n H) (x : Same H H') : Fx K T C Cr a xs d n H' := h.but (But.same x) (h.src.same x)
/-- and what holds of it, plainly -/
structure Px (rp : List (Int × V)) (back : List (Int × Int)) (gt gb : Int → List Int → Prop) : Prop where
  bnd : (back.map (·.1)).Nodup
  bl : back.length ≤ 256
  rnd : (rp.map (·.1)).Nodup
  rl : rp.length ≤ 256
  asc : rp.Pairwise (fun x y => x.1 ≤ y.1)
  bk : ∀ c ∈ back.map (·.1), ∃ o, gb c [o] ∧ gt o [c]
  rd : ∀ q ∈ rp, ∃ l, gt q.1 l ∧ l.length ≤ 2
  one : ∀ (o c : Int), (o, V.int c) ∈ rp → gt o [c] ∧ ∃ o', G rp c o' ∧ gb c [o']
/-- lists of answers -/
theorem choose {α β : Type} (r : α → β → Prop) : ∀ l : List α, (∀ x ∈ l, ∃ y, r x y) → ∃ m : List β, m.length = l.length ∧ ∀ (i : Nat) (x : α) (y : β), l[i]? = some x → m[i]? = some y → r x y
  | [], _ => ⟨[], rfl, fun i x y h => by simp at h⟩
  | x :: l, h => by
    obtain ⟨y, hy⟩ := h x List.mem_cons_self
    obtain ⟨m, hl, hm⟩ := choose r l fun z hz => h z (List.mem_cons_of_mem _ hz)
    refine ⟨y :: m, by rw [List.length_cons, List.length_cons, hl], fun i a b ha hb => ?_⟩
    cases i with
    | zero =>
      have e1 := Option.some.inj ha
      have e2 := Option.some.inj hb
      subst e1 e2
      exact hy
    | succ i => exact hm i a b ha hb
def sing (l : List Int) : List (List Int) := l.map fun x => [x]
theorem sing_flat : ∀ l : List Int, (sing l).flatten = l
  | [] => rfl
  | x :: l => by
    have h := sing_flat l
    show [x] ++ (sing l).flatten = x :: l
    rw [h]
    rfl
theorem sing_app (a b : List Int) : sing (a ++ b) = sing a ++ sing b := List.map_append
theorem Fa.sing {g : Int → List Int → Prop} {cs os : List Int} (hl : os.length = cs.length) (h : ∀ (i : Nat) (c o : Int), cs[i]? = some c → os[i]? = some o → g c [o]) : Fa g cs (sing os) := by
  refine ⟨by unfold K58.sing; rw [List.length_map, hl], fun i c l h1 h2 => ?_⟩
  unfold K58.sing at h2
  rw [List.getElem?_map] at h2
  cases z : os[i]? with
  | none => rw [z] at h2; cases h2
  | some o =>
    rw [z] at h2
    have e := Option.some.inj h2
    subst e
    exact h i c o h1 z
theorem Fa.app {g : Int → List Int → Prop} {a b : List Int} {x y : List (List Int)} (h1 : Fa g a x) (h2 : Fa g b y) : Fa g (a ++ b) (x ++ y) := by
  refine ⟨by rw [List.length_append, List.length_append, h1.1, h2.1], fun i c l e1 e2 => ?_⟩
  by_cases hi : i < a.length
  · rw [List.getElem?_append_left hi] at e1
    rw [List.getElem?_append_left (by rw [← h1.1]; exact hi)] at e2
    exact h1.2 i c l e1 e2
  · rw [List.getElem?_append_right (by omega)] at e1
    rw [List.getElem?_append_right (by rw [← h1.1]; omega), ← h1.1] at e2
    exact h2.2 _ c l e1 e2
theorem len_sing (l : List Int) : (sing l).flatten.length = l.length := by rw [sing_flat]
/-- t + u, two tuples of ints -/
def rCatI (K : PySem.W.Frag) : R2 := fun x y H Q => ∃ (a b : Addr) (cs ds : List Int), x = .ref a ∧ y = .ref b ∧ H a = some (.tup (cs.map V.int)) ∧ H b = some (.tup (ds.map V.int)) ∧ cs.length ≤ 1000 ∧ ds.length ≤ 1000 ∧ ∀ (H' : Hp) (p : Addr), Same H H' → H' p = some (.tup ((cs ++ ds).map V.int)) → Q (.ref p) H'
theorem op_catI {X : Cx} : OpR X (binaryOp .Add) (rCatI X.K) := by
  intro pins s σ H x y v u Q I rx ry h
  obtain ⟨a, b, cs, ds, rfl, rfl, ha, hb, l1, l2, q⟩ := h
  refine op_catA pins s σ H _ _ v u Q I rx ry ⟨a, b, _, _, rfl, rfl, SqT.of ha, SqT.of hb, by rw [List.length_map, List.length_map, sizeLine_eq]; omega, ?_⟩
  refine ⟨fun e => ?_, fun _ e => ?_, fun _ _ p np => q _ p (Same.upd np) (by rw [upd_same, List.map_append])⟩
  · have e := List.map_eq_nil_iff.mp e
    subst e
    exact q H b (Same.refl _) hb
  · have e := List.map_eq_nil_iff.mp e
    subst e
    exact q H a (Same.refl _) (by rw [List.append_nil]; exact ha)
/-! ### blocks -/
/-- a statement: from what stands ahead of it to what stands behind -/
structure BlkS (X : Cx) (st : Stmt) (pre post : L2.St → Hp → Prop) : Prop where
  ex : ∃ t, PS X st t ∧ ∀ (D : Ends) (σ : L2.St) (H : Hp), pre σ H → (∀ σ' H', post σ' H' → D.nx σ' H') → t D σ H
structure Blk (X : Cx) (sts : List Stmt) (pre post : L2.St → Hp → Prop) : Prop where
  ex : ∃ t, PSs X sts t ∧ ∀ (D : Ends) (σ : L2.St) (H : Hp), pre σ H → (∀ σ' H', post σ' H' → D.nx σ' H') → t D σ H
theorem BlkS.one {X : Cx} {st : Stmt} {p q : L2.St → Hp → Prop} (h : BlkS X st p q) : Blk X [st] p q := by
  obtain ⟨t, h1, h2⟩ := h.ex
  exact ⟨t, pss_one h1, h2⟩
theorem BlkS.cons {X : Cx} {st : Stmt} {sts : List Stmt} {p q r : L2.St → Hp → Prop} (h : BlkS X st p q) (g : Blk X sts q r) : Blk X (st :: sts) p r := by
  obtain ⟨t, h1, h2⟩ := h.ex
  obtain ⟨u, g1, g2⟩ := g.ex
  exact ⟨_, pss_cons h1 g1, fun D σ H hp hr => h2 _ σ H hp fun σ' H' hq => g2 D σ' H' hq hr⟩
end K58


set_option Elab.async false
set_option linter.all false
set_option maxRecDepth 100000
set_option maxHeartbeats 8000000
namespace K58
open PySem PySem.Spec PyProof.Rows L2
variable {P : Program} {w : World} {K : PySem.W.Frag} {mg : Str → Option Value} {base : Heap} {f : Addr} {fd : FuncData}
/-- w.encoded(x)[0] -/
theorem enc_rd {C x i : Addr} {gt gb : Int → List Int → Prop} {cs : List Int} {ls : List (List Int)} {arg : TA} {σ : L2.St} {H : Hp} {Q : VK} (hv : σ[i]? = some (some (.ref x))) (hc : CodAt C H x gt gb) (hfa : Fa gb cs ls) (hsz : ls.flatten.length ≤ 1000)
    (harg : ∀ R : List V → Hp → Prop, (∀ (H1 : Hp) (t : Addr), Same H H1 → (H1 t = some (.lst (cs.map V.int)) ∨ H1 t = some (.tup (cs.map V.int))) → R [.ref t] H1) → arg σ H R)
    (hq : ∀ (H' : Hp) (p : Addr), Same H H' → H' p = some (.tup (ls.flatten.map V.int)) → Q (.ref p) H') :
    tOp (rIxT K) (tMeth C "encoded" (spEnc C) [.str "strict"] E0 (tVar i) arg) (tC (.int 0)) σ H Q := by
  have hc' := hc
  obtain ⟨dx, dt, db, fs, rg, h0, h1, h2, h3, h4, h5, h6, h7, h8⟩ := hc'
  refine ⟨_, hv, x, dx, fs, rfl, h0, h5, harg _ fun H1 t s1 ht => ?_⟩
  refine ⟨x, t, _, gt, gb, cs, ls, rfl, hc.ext (ExtN.same s1), ht, hfa, hsz, fun H2 p tt n s2 hp htt => ?_⟩
  exact ⟨p, _, 0, _, rfl, rfl, SqT.of hp, rfl, hq H2 tt (s1.trans s2) htt⟩
theorem dec_rd {C x i : Addr} {gt gb : Int → List Int → Prop} {cs : List Int} {ls : List (List Int)} {arg : TA} {σ : L2.St} {H : Hp} {Q : VK} (hv : σ[i]? = some (some (.ref x))) (hc : CodAt C H x gt gb) (hfa : Fa gt cs ls) (hsz : ls.flatten.length ≤ 1000)
    (harg : ∀ R : List V → Hp → Prop, (∀ (H1 : Hp) (t : Addr), Same H H1 → (H1 t = some (.lst (cs.map V.int)) ∨ H1 t = some (.tup (cs.map V.int))) → R [.ref t] H1) → arg σ H R)
    (hq : ∀ (H' : Hp) (p : Addr), Same H H' → H' p = some (.tup (ls.flatten.map V.int)) → Q (.ref p) H') :
    tOp (rIxT K) (tMeth C "decoded" (spDec C) [.str "strict", .bl true] E0 (tVar i) arg) (tC (.int 0)) σ H Q := by
  have hc' := hc
  obtain ⟨dx, dt, db, fs, rg, h0, h1, h2, h3, h4, h5, h6, h7, h8⟩ := hc'
  refine ⟨_, hv, x, dx, fs, rfl, h0, h6, harg _ fun H1 t s1 ht => ?_⟩
  refine ⟨x, t, _, _, gt, gb, cs, ls, rfl, hc.ext (ExtN.same s1), ht, hfa, hsz, fun H2 p tt n s2 hp htt => ?_⟩
  exact ⟨p, _, 0, _, rfl, rfl, SqT.of hp, rfl, hq H2 tt (s1.trans s2) htt⟩
/-- a + b -/
theorem cat_rd {i j p q : Addr} {cs ds : List Int} {σ : L2.St} {H : Hp} {Q : VK} (hi : σ[i]? = some (some (.ref p))) (hj : σ[j]? = some (some (.ref q))) (h1 : H p = some (.tup (cs.map V.int))) (h2 : H q = some (.tup (ds.map V.int))) (l1 : cs.length ≤ 1000) (l2 : ds.length ≤ 1000)
    (hq : ∀ (H' : Hp) (r : Addr), Same H H' → H' r = some (.tup ((cs ++ ds).map V.int)) → Q (.ref r) H') : tOp (rCatI K) (tVar i) (tVar j) σ H Q :=
  ⟨_, hi, _, hj, p, q, cs, ds, rfl, rfl, h1, h2, l1, l2, hq⟩
theorem arg_cat {i j p q : Addr} {cs ds : List Int} {σ : L2.St} {H : Hp} (hi : σ[i]? = some (some (.ref p))) (hj : σ[j]? = some (some (.ref q))) (h1 : H p = some (.tup (cs.map V.int))) (h2 : H q = some (.tup (ds.map V.int))) (l1 : cs.length ≤ 1000) (l2 : ds.length ≤ 1000)
    (R : List V → Hp → Prop) (hR : ∀ (H1 : Hp) (t : Addr), Same H H1 → (H1 t = some (.lst ((cs ++ ds).map V.int)) ∨ H1 t = some (.tup ((cs ++ ds).map V.int))) → R [.ref t] H1) : tCons (tOp (rCatI K) (tVar i) (tVar j)) tNil σ H R :=
  cat_rd hi hj h1 h2 l1 l2 fun H' r s' hr => hR H' r s' (.inr hr)
theorem arg_var {i p : Addr} {cs : List Int} {σ : L2.St} {H : Hp} (hi : σ[i]? = some (some (.ref p))) (h1 : H p = some (.lst (cs.map V.int)) ∨ H p = some (.tup (cs.map V.int)))
    (R : List V → Hp → Prop) (hR : ∀ (H1 : Hp) (t : Addr), Same H H1 → (H1 t = some (.lst (cs.map V.int)) ∨ H1 t = some (.tup (cs.map V.int))) → R [.ref t] H1) : tCons (tVar i) tNil σ H R :=
  ⟨_, hi, hR H p (Same.refl _) h1⟩
theorem arg_list {i p : Addr} {cs : List Int} {σ : L2.St} {H : Hp} (hi : σ[i]? = some (some (.ref p))) (h1 : H p = some (.tup (cs.map V.int)))
    (R : List V → Hp → Prop) (hR : ∀ (H1 : Hp) (t : Addr), Same H H1 → (H1 t = some (.lst (cs.map V.int)) ∨ H1 t = some (.tup (cs.map V.int))) → R [.ref t] H1) :
    tCons (tCB (fun xs H Q => ∃ p ys, xs = [.ref p] ∧ (SqL K H p ys ∨ SqT K H p ys) ∧ ∀ l, H l = none → Q (.ref l) (upd H l (.lst ys))) (tCons (tVar i) tNil)) tNil σ H R :=
  ⟨_, hi, p, _, rfl, .inr (SqT.of h1), fun l nl => hR _ l (Same.upd nl) (.inl upd_same)⟩
def NL : List Str := ["_law_script", "_law_registry", "_law_k", "_law_source_here", "_law_some_here", "_law_rows", "_law_back", "_law_codec", "_law_others", "_law_one", "_law_two", "_law_part", "_law_way", "_law_octets", "_law_codes", "_law_plain", "_law_octet", "_law_greatest"]
theorem sc_law : FnScope NL ["_law_script"] (defScope s_law) := ⟨rfl, rfl, rfl, by decide +kernel, rfl, by decide +kernel, by decide +kernel⟩
/-- the law's own place -/
abbrev XL (P : Program) (w : World) (K : PySem.W.Frag) (mg : Str → Option Value) (base : Heap) (f : Addr) (cdv : Value) (A : Around) (outer : List Env) (s : Shared) (H : Hp) (E : XK) : Cx :=
  (cxOf CX0 P w K mg base ["_law_script", "_law_registry", "_law_k", "_law_source_here", "_law_some_here", "_law_rows", "_law_back", "_law_codec", "_law_others", "_law_one", "_law_two", "_law_part", "_law_way", "_law_octets", "_law_codes", "_law_plain", "_law_octet", "_law_greatest"] d_law.qual d_law.scope f cdv A outer s H E).nox
abbrev RL (f : Addr) (cdv : Value) (A : Around) (s : Shared) : Prop := Room 5 (A.deeper (envOfC d_law.qual d_law.scope s.heap.objs.size f cdv))
def kb : List Stmt := match defBody s_law with
  | [_, .For _ _ b _ _, _] => b
  | _ => []
def noSt : Stmt := s_law
abbrev stK (i : Nat) : Stmt := (kb[i]?).getD noSt
/-- what stands in a round once all is made -/
abbrev Hd (a : Addr) (d : Dat) (v9 v10 v11 v12 v13 v14 v15 v16 v17 : Option V) : L2.St :=
  [some (.ref a), some (.ref d.r), some (.int d.k), some (.ref d.s), some (.ref d.tb), some (.ref d.d1), some (.ref d.d2), some (.ref d.c0), some (.ref d.o), v9, v10, v11, v12, v13, v14, v15, v16, v17]
def Z (K : PySem.W.Frag) (T : List (Addr × Str)) (C Cr a : Addr) (xs : List Int) (n : Nat) (σ : L2.St) (H : Hp) : Prop :=
  ∃ (d : Dat) (v9 v10 v11 v12 v13 v14 v15 v16 v17 : Option V), σ = Hd a d v9 v10 v11 v12 v13 v14 v15 v16 v17 ∧ Fx K T C Cr a xs d n H ∧ Px d.rp d.back d.gt d.gb
/-- with two texts of codes that have a way back -/
def Z1 (K : PySem.W.Frag) (T : List (Addr × Str)) (C Cr a : Addr) (xs : List Int) (n : Nat) (σ : L2.St) (H : Hp) : Prop :=
  ∃ (d : Dat) (p1 p2 : Addr) (cs1 cs2 : List Int) (v11 v12 v13 v14 v15 v16 v17 : Option V), σ = Hd a d (some (.ref p1)) (some (.ref p2)) v11 v12 v13 v14 v15 v16 v17 ∧ Fx K T C Cr a xs d n H ∧ Px d.rp d.back d.gt d.gb ∧
    H p1 = some (.tup (cs1.map V.int)) ∧ H p2 = some (.tup (cs2.map V.int)) ∧ (∀ c ∈ cs1, c ∈ d.back.map (·.1)) ∧ (∀ c ∈ cs2, c ∈ d.back.map (·.1)) ∧ cs1.length ≤ 12 ∧ cs2.length ≤ 12
def Z2 (K : PySem.W.Frag) (T : List (Addr × Str)) (C Cr a : Addr) (xs : List Int) (n : Nat) (σ : L2.St) (H : Hp) : Prop :=
  ∃ (d : Dat) (p1 p2 : Addr) (cs1 cs2 : List Int) (v11 v12 v13 v14 v15 v16 v17 : Option V), σ = Hd a d (some (.ref p1)) (some (.ref p2)) v11 v12 v13 v14 v15 v16 v17 ∧ Fx K T C Cr a xs d n H ∧ Px d.rp d.back d.gt d.gb ∧
    H p1 = some (.tup (cs1.map V.int)) ∧ H p2 = some (.tup (cs2.map V.int)) ∧ (∀ c ∈ cs1, c ∈ d.rp.map (·.1)) ∧ (∀ c ∈ cs2, c ∈ d.rp.map (·.1)) ∧ cs1.length ≤ 12 ∧ cs2.length ≤ 12
abbrev CalE (P : Program) (w : World) (K : PySem.W.Frag) (mg : Str → Option Value) (base : Heap) (C : Addr) : Prop := CalM P w K mg base C "encoded" 3 ["self", "source", "errors"] [.str "strict"] (spEnc C)
abbrev CalD (P : Program) (w : World) (K : PySem.W.Frag) (mg : Str → Option Value) (base : Heap) (C : Addr) : Prop := CalM P w K mg base C "decoded" 3 ["self", "data", "errors", "final"] [.str "strict", .bl true] (spDec C)
/-- reading -/
theorem blk8 {T : List (Addr × Str)} {C Cr a : Addr} {xs : List Int} {n : Nat} {cdv : Value} {A : Around} {outer : List Env} {s : Shared} {H0 : Hp} {E : XK} (M : Mo mg) (CD : CalD P w K mg base C) (hr : RL f cdv A s) :
    BlkS (XL P w K mg base f cdv A outer s H0 E) (stK 8) (Z2 K T C Cr a xs n) (Z2 K T C Cr a xs n) := by
  have hr3 := hr.mono (by decide : 3 ≤ 5)
  have hu := hu64 hr
  refine ⟨_, ps_for PassesOwn.never rfl (pi_tup (pe_tup (pa_cons (pv 7) (pa_cons (pe_ix ix_list (pv 8) pe_int (fun _ _ => rfl)) (pa_cons (pe_ix ix_list (pv 8) pe_int (fun _ _ => rfl)) pa_nil))))) (pg_name (i := 12) sc_law.nd rfl (.inl rfl))
    (pss_cons (ps_set (i := 14) sc_law.nd rfl (.inl rfl) (pe_ix ix_tup (pe_m CD hr3 (pv 12) (pa_cons (pe_op op_catI (pv 9) (pv 10)) pa_nil)) pe_int (fun _ _ => rfl)))
    (pss_one (ps_if (pt_cmpR (op_neT hu) (pv 14) (pe_op op_catI (pe_ix ix_tup (pe_m CD hr3 (pv 12) (pa_cons (pv 9) pa_nil)) pe_int (fun _ _ => rfl)) (pe_ix ix_tup (pe_m CD hr3 (pv 7) (pa_cons (pv 10) pa_nil)) pe_int (fun _ _ => rfl))) (nomark _)) pss_never pss_nil))), ?_⟩
  rintro D σ H ⟨d, p1, p2, cs1, cs2, v11, v12, v13, v14, v15, v16, v17, rfl, fx, px, h1, h2, m1, m2, l1, l2⟩ hq
  refine ⟨_, rfl, _, rfl, d.o, _, 0, .ref d.c1, rfl, rfl, SqL.of fx.ot, rfl, _, rfl, d.o, _, 2, .ref d.c3, rfl, rfl, SqL.of fx.ot, rfl, by show 3 ≤ sizeLine; decide, fun t nt => ⟨t, rfl, ⟨_, SqT.of upd_same⟩, ?_⟩⟩
  have s0 : Same H (upd H t (.tup [.ref d.c0, .ref d.c1, .ref d.c3])) := Same.upd nt
  obtain ⟨ls1, k1, g1⟩ := choose (fun o l => d.gt o l ∧ l.length ≤ 2) cs1 fun o ho => by
    obtain ⟨q, hq, rfl⟩ := List.mem_map.mp (m1 o ho)
    exact px.rd q hq
  obtain ⟨ls2, k2, g2⟩ := choose (fun o l => d.gt o l ∧ l.length ≤ 2) cs2 fun o ho => by
    obtain ⟨q, hq, rfl⟩ := List.mem_map.mp (m2 o ho)
    exact px.rd q hq
  have F1 : Fa d.gt cs1 ls1 := ⟨k1.symm, fun i c l a b => (g1 i c l a b).1⟩
  have F2 : Fa d.gt cs2 ls2 := ⟨k2.symm, fun i c l a b => (g2 i c l a b).1⟩
  have flen : ∀ (cs : List Int) (ls : List (List Int)), ls.length = cs.length → (∀ (i : Nat) (c : Int) (l : List Int), cs[i]? = some c → ls[i]? = some l → d.gt c l ∧ l.length ≤ 2) → ls.flatten.length ≤ 2 * cs.length := by
    intro cs
    induction cs with
    | nil => intro ls e _; rw [List.length_eq_zero_iff.mp e]; exact Nat.le_refl _
    | cons c cs ih =>
      intro ls e h
      cases ls with
      | nil => cases e
      | cons l ls =>
        have a := ih ls (Nat.succ.inj e) fun i c' l' x y => h (i + 1) c' l' x y
        have b := (h 0 c l rfl rfl).2
        rw [List.flatten_cons, List.length_append, List.length_cons]
        omega
  have z1 := flen cs1 ls1 k1 g1
  have z2 := flen cs2 ls2 k2 g2
  refine for_tup (K := K) (a := t) (xs := [.ref d.c0, .ref d.c1, .ref d.c3]) (fun i σ3 H3 => ∃ v11 v12 v13 v14 v15 v16 v17, σ3 = Hd a d (some (.ref p1)) (some (.ref p2)) v11 v12 v13 v14 v15 v16 v17 ∧ Same (upd H t (.tup [.ref d.c0, .ref d.c1, .ref d.c3])) H3)
    ⟨_, _, _, _, _, _, _, rfl, Same.refl _⟩ (fun i σ3 H3 _ ⟨_, _, _, _, _, _, _, _, z⟩ => SqT.of (z _ _ upd_same)) ?_ ?_
  · rintro i x σ3 H3 hx ⟨v11, v12, v13, v14, v15, v16, v17, rfl, s3⟩
    have s03 := s0.trans s3
    have way : ∃ y, x = .ref y ∧ CodAt C H3 y d.gt d.gb := by
      match i, hx with
      | 0, hx => cases hx; exact ⟨_, rfl, fx.k0.ext (ExtN.same s03)⟩
      | 1, hx => cases hx; exact ⟨_, rfl, fx.k1.ext (ExtN.same s03)⟩
      | 2, hx => cases hx; exact ⟨_, rfl, fx.k3.ext (ExtN.same s03)⟩
      | i + 3, hx => simp at hx
    obtain ⟨y, rfl, hy⟩ := way
    have p13 := s03 _ _ h1
    have p23 := s03 _ _ h2
    refine dec_rd rfl hy (F1.app F2) (by rw [List.flatten_append, List.length_append]; omega) (arg_cat rfl rfl p13 p23 (by omega) (by omega)) fun H4 q s4 hq4 => ?_
    refine ⟨_, rfl, ?_⟩
    refine dec_rd rfl (hy.ext (ExtN.same s4)) F1 (by omega) (arg_var rfl (.inr (s4 _ _ p13))) fun H5 q1 s5 hq5 => ?_
    have s05 := s03.trans (s4.trans s5)
    refine dec_rd rfl (fx.k0.ext (ExtN.same s05)) F2 (by omega) (arg_var rfl (.inr (s05 _ _ h2))) fun H6 q2 s6 hq6 => ?_
    refine ⟨q1, q2, ls1.flatten, ls2.flatten, rfl, rfl, s6 _ _ hq5, hq6, by omega, by omega, fun H7 q3 s7 hq7 => ?_⟩
    rw [List.flatten_append] at hq4
    refine ⟨q, q3, _, rfl, rfl, SqT.of (s7 _ _ (s6 _ _ (s5 _ _ hq4))), SqT.of hq7, false, rfl, iteF ?_⟩
    exact ⟨_, _, _, _, _, _, _, rfl, s3.trans (s4.trans (s5.trans (s6.trans s7)))⟩
  · rintro σ3 H3 ⟨v11, v12, v13, v14, v15, v16, v17, rfl, s3⟩
    have s03 := s0.trans s3
    exact hq _ _ ⟨d, p1, p2, cs1, cs2, v11, v12, v13, v14, v15, v16, v17, rfl, fx.same s03, px, s03 _ _ h1, s03 _ _ h2, m1, m2, l1, l2⟩
end K58


set_option Elab.async false
set_option linter.all false
set_option maxRecDepth 100000
set_option maxHeartbeats 8000000
namespace K58
open PySem PySem.Spec PyProof.Rows L2
variable {P : Program} {w : World} {K : PySem.W.Frag} {mg : Str → Option Value} {base : Heap} {f : Addr} {fd : FuncData}
/-- writing -/
theorem blk6 {T : List (Addr × Str)} {C Cr a : Addr} {xs : List Int} {n : Nat} {cdv : Value} {A : Around} {outer : List Env} {s : Shared} {H0 : Hp} {E : XK} (M : Mo mg) (cmp : R58.cmpB K C = true) (CE : CalE P w K mg base C) (CD : CalD P w K mg base C) (hr : RL f cdv A s) :
    BlkS (XL P w K mg base f cdv A outer s H0 E) (stK 6) (Z1 K T C Cr a xs n) (Z K T C Cr a xs n) := by
  have hr3 := hr.mono (by decide : 3 ≤ 5)
  have hu := hu64 hr
  have hu1 := hu_of hr
  refine ⟨_, ps_for PassesOwn.never rfl (pi_list (pe_op op_cat (pe_lst (pa_cons (pv 7) pa_nil)) (pv 8))) (pg_name (i := 12) sc_law.nd rfl (.inl rfl))
    (pss_cons (ps_set (i := 13) sc_law.nd rfl (.inl rfl) (pe_ix ix_tup (pe_m CE hr3 (pv 12) (pa_cons (pe_op op_catI (pv 9) (pv 10)) pa_nil)) pe_int (fun _ _ => rfl)))
    (pss_cons (ps_if (PW.pt (pw_or (pt_cmpR (op_neT hu) (pv 13) (pe_op op_catI (pe_ix ix_tup (pe_m CE hr3 (pv 12) (pa_cons (pv 9) pa_nil)) pe_int (fun _ _ => rfl)) (pe_ix ix_tup (pe_m CE hr3 (pv 12) (pa_cons (pe_callTy call_list_of (by rfl) M.list b_list (pa_cons (pv 10) pa_nil)) pa_nil)) pe_int (fun _ _ => rfl))) (nomark _))
        (pw_or1 (pt_cmpR (op_neT hu) (pv 13) (pe_ix ix_tup (pe_m CE hr3 (pv 7) (pa_cons (pe_op op_catI (pv 9) (pv 10)) pa_nil)) pe_int (fun _ _ => rfl)) (nomark _))))) pss_never pss_nil)
    (pss_one (ps_if (PW.pt (pw_or (pt_cmpR op_ne (pe_callB call_len_seq (by rfl) M.len PySem.boot_len (pa_cons (pv 13) pa_nil)) (pe_callB call_len_seq (by rfl) M.len PySem.boot_len (pa_cons (pe_op op_catI (pv 9) (pv 10)) pa_nil)) (nomark _))
        (pw_or1 (PW.pt (pw_and (pt_cmpR (R58.op_neI hu1) (pv 12) (pe_ix ix_list (pv 8) pe_int (fun _ _ => rfl)) (nomark _)) (pw_and1 (pt_cmpR (op_neT hu) (pe_ix ix_tup (pe_m CD hr3 (pv 12) (pa_cons (pv 13) pa_nil)) pe_int (fun _ _ => rfl)) (pe_op op_catI (pv 9) (pv 10)) (nomark _))))))))
      pss_never pss_nil)))), ?_⟩
  rintro D σ H ⟨d, p1, p2, cs1, cs2, v11, v12, v13, v14, v15, v16, v17, rfl, fx, px, h1, h2, m1, m2, l1, l2⟩ hq
  refine ⟨_, rfl, by show 1 ≤ sizeLine; decide, fun l nl => ?_⟩
  have sl : Same H (upd H l (.lst [.ref d.c0])) := Same.upd nl
  refine ⟨_, rfl, l, d.o, _, _, rfl, rfl, upd_same, sl _ _ fx.ot, by show 4 ≤ sizeLine; decide, fun t nt => ⟨t, rfl, ⟨_, SqL.of upd_same⟩, ?_⟩⟩
  have s0 : Same H (upd (upd H l (.lst [.ref d.c0])) t (.lst ([.ref d.c0] ++ [.ref d.c1, .ref d.c2, .ref d.c3]))) := sl.trans (Same.upd nt)
  obtain ⟨os1, k1, g1⟩ := choose (fun c o => d.gb c [o] ∧ d.gt o [c]) cs1 fun c hc => px.bk c (m1 c hc)
  obtain ⟨os2, k2, g2⟩ := choose (fun c o => d.gb c [o] ∧ d.gt o [c]) cs2 fun c hc => px.bk c (m2 c hc)
  have F1 : Fa d.gb cs1 (sing os1) := Fa.sing k1 fun i c o x y => (g1 i c o x y).1
  have F2 : Fa d.gb cs2 (sing os2) := Fa.sing k2 fun i c o x y => (g2 i c o x y).1
  have B1 : Fa d.gt os1 (sing cs1) := Fa.sing k1.symm fun i o c x y => (g1 i c o y x).2
  have B2 : Fa d.gt os2 (sing cs2) := Fa.sing k2.symm fun i o c x y => (g2 i c o y x).2
  have F12 : Fa d.gb (cs1 ++ cs2) (sing (os1 ++ os2)) := by rw [sing_app]; exact F1.app F2
  have B12 : Fa d.gt (os1 ++ os2) (sing (cs1 ++ cs2)) := by rw [sing_app]; exact B1.app B2
  refine for_list (K := K) (a := t) (xs := [.ref d.c0, .ref d.c1, .ref d.c2, .ref d.c3]) (fun i σ3 H3 => ∃ v11 v12 v13 v14 v15 v16 v17, σ3 = Hd a d (some (.ref p1)) (some (.ref p2)) v11 v12 v13 v14 v15 v16 v17 ∧ Same (upd (upd H l (.lst [.ref d.c0])) t (.lst ([.ref d.c0] ++ [.ref d.c1, .ref d.c2, .ref d.c3]))) H3)
    ⟨_, _, _, _, _, _, _, rfl, Same.refl _⟩ (fun i σ3 H3 _ ⟨_, _, _, _, _, _, _, _, z⟩ => SqL.of (z _ _ upd_same)) ?_ ?_
  · rintro i x σ3 H3 hx ⟨v11, v12, v13, v14, v15, v16, v17, rfl, s3⟩
    have s03 := s0.trans s3
    have way : ∃ y gt', x = .ref y ∧ CodAt C H3 y gt' d.gb ∧ (y = d.c2 ∨ gt' = d.gt) := by
      match i, hx with
      | 0, hx => cases hx; exact ⟨_, _, rfl, fx.k0.ext (ExtN.same s03), .inr rfl⟩
      | 1, hx => cases hx; exact ⟨_, _, rfl, fx.k1.ext (ExtN.same s03), .inr rfl⟩
      | 2, hx => cases hx; exact ⟨_, _, rfl, fx.k2.ext (ExtN.same s03), .inl rfl⟩
      | 3, hx => cases hx; exact ⟨_, _, rfl, fx.k3.ext (ExtN.same s03), .inr rfl⟩
      | i + 4, hx => simp at hx
    obtain ⟨y, gt', rfl, hy, hgt⟩ := way
    have p13 := s03 _ _ h1
    have p23 := s03 _ _ h2
    have ll : ∀ l : List Int, l.length ≤ 100 → (sing l).flatten.length ≤ 1000 := fun l h => by rw [len_sing]; omega
    refine enc_rd rfl hy F12 (ll _ (by rw [List.length_append]; omega)) (arg_cat rfl rfl p13 p23 (by omega) (by omega)) fun H4 q s4 hq4 => ?_
    rw [sing_flat] at hq4
    refine ⟨_, rfl, ?_⟩
    refine enc_rd rfl (hy.ext (ExtN.same s4)) F1 (ll _ (by omega)) (arg_var rfl (.inr (s4 _ _ p13))) fun H5 q1 s5 hq5 => ?_
    rw [sing_flat] at hq5
    have s45 := s4.trans s5
    refine enc_rd rfl (hy.ext (ExtN.same s45)) F2 (ll _ (by omega)) (arg_list rfl (s45 _ _ p23)) fun H6 q2 s6 hq6 => ?_
    rw [sing_flat] at hq6
    have s46 := s45.trans s6
    refine ⟨q1, q2, os1, os2, rfl, rfl, s6 _ _ hq5, hq6, by omega, by omega, fun H7 q3 s7 hq7 => ?_⟩
    have s47 := s46.trans s7
    have hq47 : H7 q = some (.tup ((os1 ++ os2).map V.int)) := s7 _ _ (s6 _ _ (s5 _ _ hq4))
    refine ⟨q, q3, _, rfl, rfl, SqT.of hq47, SqT.of hq7, false, rfl, iteF ?_⟩
    refine ⟨_, rfl, ?_⟩
    refine enc_rd rfl (fx.k0.ext (ExtN.same (s03.trans s47))) F12 (ll _ (by rw [List.length_append]; omega)) (arg_cat rfl rfl (s47 _ _ p13) (s47 _ _ p23) (by omega) (by omega)) fun H8 q4 s8 hq8 => ?_
    rw [sing_flat] at hq8
    have s48 := s47.trans s8
    have hq48 := s8 _ _ hq47
    refine ⟨q, q4, _, rfl, rfl, SqT.of hq48, SqT.of hq8, false, rfl, iteF ?_⟩
    refine ⟨_, rfl, q, _, rfl, .inr (SqT.of hq48), ?_⟩
    refine cat_rd rfl rfl (s48 _ _ p13) (s48 _ _ p23) (by omega) (by omega) fun H9 q5 s9 hq9 => ?_
    have s49 := s48.trans s9
    have hq49 := s9 _ _ hq48
    refine ⟨q5, _, rfl, .inr (SqT.of hq9), rfl, _, rfl, ?_⟩
    rw [decide_eq_true (by rw [List.length_map, List.length_map, List.length_append, List.length_append, k1, k2])]
    refine iteF ?_
    have fin : ∀ H', Same H3 H' → ∃ w11 w12 w13 w14 w15 w16 w17, Hd a d (some (.ref p1)) (some (.ref p2)) v11 (some (.ref y)) (some (.ref q)) v14 v15 v16 v17 = Hd a d (some (.ref p1)) (some (.ref p2)) w11 w12 w13 w14 w15 w16 w17 ∧ Same (upd (upd H l (.lst [.ref d.c0])) t (.lst ([.ref d.c0] ++ [.ref d.c1, .ref d.c2, .ref d.c3]))) H' :=
      fun H' z => ⟨_, _, _, _, _, _, _, rfl, s3.trans z⟩
    have hy9 := hy.ext (ExtN.same s49)
    have hy9' := hy9
    obtain ⟨dx, dt, db, fs, rg, e0, e1, e2, e3, e4, e5, e6, e7, e8⟩ := hy9'
    have k29 := fx.k2.ext (ExtN.same (s03.trans s49))
    obtain ⟨dx', dt', db', fs', rg', e0', _⟩ := k29
    refine ⟨_, rfl, _, rfl, d.o, _, 1, .ref d.c2, rfl, rfl, SqL.of (s49 _ _ (s03 _ _ fx.ot)), rfl, y, d.c2, C, dx, dx', fs, fs', rfl, rfl, e0, e0', cmp, _, rfl, ?_⟩
    by_cases hyc : y = d.c2
    · rw [decide_eq_true hyc]
      exact iteF (iteF (fin H9 s49))
    · rw [decide_eq_false hyc]
      have egt : gt' = d.gt := hgt.elim (fun z => absurd z hyc) id
      subst egt
      refine iteT ?_
      refine dec_rd rfl hy9 B12 (ll _ (by rw [List.length_append]; omega)) (arg_var rfl (.inr hq49)) fun H10 q6 s10 hq10 => ?_
      rw [sing_flat] at hq10
      have s410 := s49.trans s10
      refine cat_rd rfl rfl (s410 _ _ p13) (s410 _ _ p23) (by omega) (by omega) fun H11 q7 s11 hq11 => ?_
      refine ⟨q6, q7, _, rfl, rfl, SqT.of (s11 _ _ hq10), SqT.of hq11, false, rfl, iteF ?_⟩
      exact fin H11 (s410.trans s11)
  · rintro σ3 H3 ⟨v11, v12, v13, v14, v15, v16, v17, rfl, s3⟩
    have s03 := s0.trans s3
    exact hq _ _ ⟨d, _, _, v11, v12, v13, v14, v15, v16, v17, rfl, fx.same s03, px⟩
end K58


set_option Elab.async false
set_option linter.all false
set_option maxRecDepth 100000
set_option maxHeartbeats 8000000
namespace K58
open PySem PySem.Spec PyProof.Rows L2
variable {P : Program} {w : World} {K : PySem.W.Frag} {mg : Str → Option Value} {base : Heap} {f : Addr} {fd : FuncData}
abbrev CalS (P : Program) (w : World) (K : PySem.W.Frag) (mg : Str → Option Value) (base : Heap) : Prop := Cal P w K mg base "_law_some" 3 ["_law_source_here", "_law_things", "_law_many"] [] spSome
theorem keysB (l : List (Int × Int)) : (mapB l).map (·.1) = (l.map (·.1)).map Sum.inl := by
  unfold mapB
  rw [List.map_map, List.map_map]
  rfl
theorem keysE (l : List (Int × V)) : (mapE l).map (·.1) = (l.map (·.1)).map Sum.inl := by
  unfold mapE
  rw [List.map_map, List.map_map]
  rfl
/-- two drawn rows of keys -/
theorem blk5 {T : List (Addr × Str)} {C Cr a : Addr} {xs : List Int} {n : Nat} (hn : n ≤ 1000) {cdv : Value} {A : Around} {outer : List Env} {s : Shared} {H0 : Hp} {E : XK} (M : Mo mg) (SO : CalS P w K mg base) (hr : RL f cdv A s) :
    BlkS (XL P w K mg base f cdv A outer s H0 E) (stK 5) (Z K T C Cr a xs n) (Z1 K T C Cr a xs (n + 40)) := by
  have hr3 := hr.mono (by decide : 3 ≤ 5)
  refine ⟨_, ps_asg (pe_lc (own := [("_law_part", 11)]) (g := gName 11) (tt := tYes) rfl sc_law.nd (pi_range1 (by rfl) M.range (pa_cons pe_int pa_nil))
    (blkOk_by (N := NL) (sc := defScope s_law) (by decide +kernel)) (fun _ _ _ _ _ => pg_name (i := 11) sc_law.nd rfl (Or.inl rfl)) (fun _ _ _ _ _ => pts_nil)
    (fun _ _ _ _ _ => pe_c SO hr3 (pa_cons (pv 3) (pa_cons (pe_callB (R58.call_sortedDA rfl) (by rfl) M.sorted b_sorted (pa_cons (pv 6) pa_nil)) (pa_cons pe_int pa_nil)))))
    (pg_unl rfl (pgs_cons (pg_name (i := 9) sc_law.nd rfl (.inl rfl)) (pgs_cons (pg_name (i := 10) sc_law.nd rfl (.inl rfl)) pgs_nil))), ?_⟩
  rintro D σ H ⟨d, v9, v10, v11, v12, v13, v14, v15, v16, v17, rfl, fx, px⟩ hq
  refine ⟨2, rfl, by decide, by decide, fun Dd nD => ?_⟩
  have hsrc := fx.src
  obtain ⟨_, _, _, hsh, _⟩ := hsrc
  have nDs : Dd ≠ d.s := fun z => by subst z; cases (nD.symm.trans hsh)
  refine lc_range (lo := 0) (n := 2) (fun i H4 => (But d.s H H4 ∧ SrcAt H4 d.s (n + 20 * i)) ∧ ∃ ps : List Addr, ps.length = i ∧ H4 Dd = some (.lst (ps.map V.ref)) ∧ ∀ p ∈ ps, ∃ cs : List Int, H4 p = some (.tup (cs.map V.int)) ∧ (∀ c ∈ cs, c ∈ d.back.map (·.1)) ∧ cs.length ≤ 12)
    ⟨⟨But.same (Same.upd nD), fx.src.same (Same.upd nD)⟩, [], rfl, upd_same, fun v hv => absurd hv List.not_mem_nil⟩ ?_ ?_
  · rintro i H4 hi ⟨⟨b4, h4⟩, ps, l4, hD4, he4⟩
    have f4 := fx.but b4 h4
    refine ⟨rfl, ?_⟩
    dsimp only [tYes]
    rw [if_pos rfl]
    refine ⟨_, rfl, _, rfl, d.d2, _, d.back.map (·.1), rfl, .inl f4.back, keysB _, fun ys p hperm hs np => ?_⟩
    have s5 : Same H4 (upd H4 p (.lst (ys.map V.int))) := Same.upd np
    have hl := hperm.length_eq
    rw [List.length_map] at hl
    have hb := px.bl
    have f5 := f4.same s5
    have hs4 := f4.src
    obtain ⟨_, _, _, hsh4, _⟩ := hs4
    have nps : p ≠ d.s := fun z => by subst z; cases (np.symm.trans hsh4)
    refine ⟨d.s, p, ys, n + 20 * i, rfl, f5.src, by omega, upd_same, nps, by omega, fun H6 t cs b6 h6 ht hm hlen => ?_⟩
    have f6 := f5.but b6 h6
    have hD6 := b6 _ _ (s5 _ _ hD4) nDs
    have s7 : ∀ b o, H6 b = some o → b ≠ Dd → upd H6 Dd (.lst (ps.map V.ref ++ [.ref t])) b = some o := fun b o hb n => by rw [upd_ne n]; exact hb
    refine ⟨ps.map V.ref, hD6, by rw [List.length_map, sizeLine_eq]; omega, ?_, ps ++ [t], by rw [List.length_append, l4]; rfl, by rw [upd_same, List.map_append]; rfl, fun p' hp' => ?_⟩
    · refine ⟨fun b o hb ne => ?_, h6.up (Ne.symm nDs)⟩
      rw [upd_ne (fun z => by subst z; rw [nD] at hb; cases hb)]
      exact b6 _ _ (s5 _ _ (b4 _ _ hb ne)) ne
    · rcases List.mem_append.mp hp' with hp' | hp'
      · obtain ⟨cs', e1, e2, e3⟩ := he4 p' hp'
        have z1 := b6 _ _ (s5 _ _ e1) (ne_of e1 hsh4 (by intro z; cases z))
        exact ⟨cs', s7 _ _ z1 (ne_of z1 hD6 (by intro z; cases z)), e2, e3⟩
      · rw [List.mem_singleton] at hp'
        subst hp'
        exact ⟨cs, s7 _ _ ht (ne_of ht hD6 (by intro z; cases z)), fun c hc => hperm.mem_iff.mp (hm c hc), hlen⟩
  · rintro H4 ⟨⟨b4, h4⟩, ps, l4, hD4, he4⟩
    have f4 := fx.but b4 h4
    match ps, l4, hD4, he4 with
    | [p1, p2], _, hD4, he4 =>
      obtain ⟨cs1, a1, a2, a3⟩ := he4 p1 (by simp)
      obtain ⟨cs2, b1, b2, b3⟩ := he4 p2 (by simp)
      refine ⟨Dd, _, rfl, SqL.of hD4, rfl, _, _, rfl, _, _, rfl, rfl, ?_⟩
      exact hq _ _ ⟨d, p1, p2, cs1, cs2, v11, v12, v13, v14, v15, v16, v17, rfl, f4, px, a1, b1, a2, b2, a3, b3⟩
/-- two drawn rows of keys -/
theorem blk7 {T : List (Addr × Str)} {C Cr a : Addr} {xs : List Int} {n : Nat} (hn : n ≤ 1000) {cdv : Value} {A : Around} {outer : List Env} {s : Shared} {H0 : Hp} {E : XK} (M : Mo mg) (SO : CalS P w K mg base) (hr : RL f cdv A s) :
    BlkS (XL P w K mg base f cdv A outer s H0 E) (stK 7) (Z K T C Cr a xs n) (Z2 K T C Cr a xs (n + 40)) := by
  have hr3 := hr.mono (by decide : 3 ≤ 5)
  refine ⟨_, ps_asg (pe_lc (own := [("_law_part", 11)]) (g := gName 11) (tt := tYes) rfl sc_law.nd (pi_range1 (by rfl) M.range (pa_cons pe_int pa_nil))
    (blkOk_by (N := NL) (sc := defScope s_law) (by decide +kernel)) (fun _ _ _ _ _ => pg_name (i := 11) sc_law.nd rfl (Or.inl rfl)) (fun _ _ _ _ _ => pts_nil)
    (fun _ _ _ _ _ => pe_c SO hr3 (pa_cons (pv 3) (pa_cons (pe_callB (R58.call_sortedDA rfl) (by rfl) M.sorted b_sorted (pa_cons (pv 5) pa_nil)) (pa_cons pe_int pa_nil)))))
    (pg_unl rfl (pgs_cons (pg_name (i := 9) sc_law.nd rfl (.inl rfl)) (pgs_cons (pg_name (i := 10) sc_law.nd rfl (.inl rfl)) pgs_nil))), ?_⟩
  rintro D σ H ⟨d, v9, v10, v11, v12, v13, v14, v15, v16, v17, rfl, fx, px⟩ hq
  refine ⟨2, rfl, by decide, by decide, fun Dd nD => ?_⟩
  have hsrc := fx.src
  obtain ⟨_, _, _, hsh, _⟩ := hsrc
  have nDs : Dd ≠ d.s := fun z => by subst z; cases (nD.symm.trans hsh)
  refine lc_range (lo := 0) (n := 2) (fun i H4 => (But d.s H H4 ∧ SrcAt H4 d.s (n + 20 * i)) ∧ ∃ ps : List Addr, ps.length = i ∧ H4 Dd = some (.lst (ps.map V.ref)) ∧ ∀ p ∈ ps, ∃ cs : List Int, H4 p = some (.tup (cs.map V.int)) ∧ (∀ c ∈ cs, c ∈ d.rp.map (·.1)) ∧ cs.length ≤ 12)
    ⟨⟨But.same (Same.upd nD), fx.src.same (Same.upd nD)⟩, [], rfl, upd_same, fun v hv => absurd hv List.not_mem_nil⟩ ?_ ?_
  · rintro i H4 hi ⟨⟨b4, h4⟩, ps, l4, hD4, he4⟩
    have f4 := fx.but b4 h4
    refine ⟨rfl, ?_⟩
    dsimp only [tYes]
    rw [if_pos rfl]
    refine ⟨_, rfl, _, rfl, d.d1, _, d.rp.map (·.1), rfl, .inl f4.rows, keysE _, fun ys p hperm hs np => ?_⟩
    have s5 : Same H4 (upd H4 p (.lst (ys.map V.int))) := Same.upd np
    have hl := hperm.length_eq
    rw [List.length_map] at hl
    have hb := px.rl
    have f5 := f4.same s5
    have hs4 := f4.src
    obtain ⟨_, _, _, hsh4, _⟩ := hs4
    have nps : p ≠ d.s := fun z => by subst z; cases (np.symm.trans hsh4)
    refine ⟨d.s, p, ys, n + 20 * i, rfl, f5.src, by omega, upd_same, nps, by omega, fun H6 t cs b6 h6 ht hm hlen => ?_⟩
    have f6 := f5.but b6 h6
    have hD6 := b6 _ _ (s5 _ _ hD4) nDs
    have s7 : ∀ b o, H6 b = some o → b ≠ Dd → upd H6 Dd (.lst (ps.map V.ref ++ [.ref t])) b = some o := fun b o hb n => by rw [upd_ne n]; exact hb
    refine ⟨ps.map V.ref, hD6, by rw [List.length_map, sizeLine_eq]; omega, ?_, ps ++ [t], by rw [List.length_append, l4]; rfl, by rw [upd_same, List.map_append]; rfl, fun p' hp' => ?_⟩
    · refine ⟨fun b o hb ne => ?_, h6.up (Ne.symm nDs)⟩
      rw [upd_ne (fun z => by subst z; rw [nD] at hb; cases hb)]
      exact b6 _ _ (s5 _ _ (b4 _ _ hb ne)) ne
    · rcases List.mem_append.mp hp' with hp' | hp'
      · obtain ⟨cs', e1, e2, e3⟩ := he4 p' hp'
        have z1 := b6 _ _ (s5 _ _ e1) (ne_of e1 hsh4 (by intro z; cases z))
        exact ⟨cs', s7 _ _ z1 (ne_of z1 hD6 (by intro z; cases z)), e2, e3⟩
      · rw [List.mem_singleton] at hp'
        subst hp'
        exact ⟨cs, s7 _ _ ht (ne_of ht hD6 (by intro z; cases z)), fun c hc => hperm.mem_iff.mp (hm c hc), hlen⟩
  · rintro H4 ⟨⟨b4, h4⟩, ps, l4, hD4, he4⟩
    have f4 := fx.but b4 h4
    match ps, l4, hD4, he4 with
    | [p1, p2], _, hD4, he4 =>
      obtain ⟨cs1, a1, a2, a3⟩ := he4 p1 (by simp)
      obtain ⟨cs2, b1, b2, b3⟩ := he4 p2 (by simp)
      refine ⟨Dd, _, rfl, SqL.of hD4, rfl, _, _, rfl, _, _, rfl, rfl, ?_⟩
      exact hq _ _ ⟨d, p1, p2, cs1, cs2, v11, v12, v13, v14, v15, v16, v17, rfl, f4, px, a1, b1, a2, b2, a3, b3⟩
end K58


set_option Elab.async false
set_option linter.all false
set_option maxRecDepth 100000
set_option maxHeartbeats 8000000
namespace K58
open PySem PySem.Spec PyProof.Rows L2
variable {P : Program} {w : World} {K : PySem.W.Frag} {mg : Str → Option Value} {base : Heap} {f : Addr} {fd : FuncData}
theorem valV_mapE {l : List (Int × V)} {o : Int} {v : V} (nd : (l.map (·.1)).Nodup) (h : (o, v) ∈ l) : valV (mapE l) (Sum.inl o) = some v :=
  val_nodup (nodup_mapE nd) (Sum.inl o, v) (List.mem_map.mpr ⟨_, h, rfl⟩)
theorem codesL_asc : ∀ {l : List (Int × V)}, l.Pairwise (fun x y => x.1 ≤ y.1) → (codesL l).Pairwise (fun x y => x.2 ≤ y.2)
  | [], _ => List.Pairwise.nil
  | q :: l, h => by
    obtain ⟨o, v⟩ := q
    rw [List.pairwise_cons] at h
    have ih := codesL_asc h.2
    cases v with
    | int c =>
      show List.Pairwise _ ((c, o) :: codesL l)
      rw [List.pairwise_cons]
      exact ⟨fun y hy => h.1 (y.2, .int y.1) (mem_codesL.mp hy), ih⟩
    | _ => exact ih
theorem isB_fold : ∀ (L L0 acc : List (Int × Int)), IsB L0 acc → L.Pairwise (fun x y => x.2 ≤ y.2) → (∀ q ∈ L0, ∀ q' ∈ L, q.2 ≤ q'.2) → IsB (L0 ++ L) (L.foldl (fun b q => putB b q.1 q.2) acc)
  | [], L0, acc, h, _, _ => by rw [List.append_nil]; exact h
  | (c, o) :: L, L0, acc, h, hp, hle => by
    rw [List.pairwise_cons] at hp
    have e : L0 ++ (c, o) :: L = (L0 ++ [(c, o)]) ++ L := by rw [List.append_assoc]; rfl
    rw [e]
    refine isB_fold L _ _ (h.step fun q hq => hle q hq (c, o) List.mem_cons_self) hp.2 fun q hq q' hq' => ?_
    rcases List.mem_append.mp hq with hq | hq
    · exact hle q hq q' (List.mem_cons_of_mem _ hq')
    · rw [List.mem_singleton] at hq
      subst hq
      exact hp.1 q' hq'
theorem merge_mapB : ∀ (L acc : List (Int × Int)), mergeK (mapB acc) (mapB L) = mapB (L.foldl (fun b q => putB b q.1 q.2) acc)
  | [], _ => rfl
  | (c, o) :: L, acc => by
    show mergeK (putK (mapB acc) (Sum.inl c) (.int o)) (mapB L) = _
    rw [putK_mapB]
    exact merge_mapB L _
theorem mapE_mapB (L : List (Int × Int)) : mapE (L.map fun q => (q.1, V.int q.2)) = mapB L := by
  unfold mapE mapB
  rw [List.map_map]
  rfl
/-- isinstance(v, int) -/
theorem isi_rd {H : Hp} {v : V} {e : Ent} (h : EntAt H v e) : ∃ (b : Bool) (t u : Value), ClsV (.ty "int") u ∧ TyX K H v t ∧ PySem.W.kitOne K t u = some b ∧ ((b = true ∧ ∃ c, v = .int c) ∨ (b = false ∧ ∀ c, v ≠ .int c)) := by
  cases e with
  | hole =>
    have e : v = .non := h
    subst e
    exact ⟨false, _, _, .ty "int", .base .non, kit_ty (by decide +kernel), .inr ⟨rfl, fun c z => by cases z⟩⟩
  | code c =>
    obtain ⟨rfl, _⟩ := h
    exact ⟨true, _, _, .ty "int", .base (.int c), kit_ty (by decide +kernel), .inl ⟨rfl, c, rfl⟩⟩
  | txt cs =>
    obtain ⟨a, rfl, ho, _⟩ := h
    rcases ho with ho | ho
    · exact ⟨false, _, _, .ty "int", .base (.lst ho), kit_ty (by decide +kernel), .inr ⟨rfl, fun c z => by cases z⟩⟩
    · exact ⟨false, _, _, .ty "int", .base (.tup ho), kit_ty (by decide +kernel), .inr ⟨rfl, fun c z => by cases z⟩⟩
def Z3 (K : PySem.W.Frag) (T : List (Addr × Str)) (C Cr a : Addr) (xs : List Int) (n : Nat) (σ : L2.St) (H : Hp) : Prop :=
  ∃ (d : Dat) (pl : Addr) (qs : List Int) (v9 v10 v11 v12 v13 v14 v16 v17 : Option V), σ = Hd a d v9 v10 v11 v12 v13 v14 (some (.ref pl)) v16 v17 ∧ Fx K T C Cr a xs d n H ∧ Px d.rp d.back d.gt d.gb ∧
    H pl = some (.lst (qs.map V.int)) ∧ (∀ o ∈ qs, ∃ c, (o, V.int c) ∈ d.rp) ∧ qs.length ≤ 12
theorem blk9 {T : List (Addr × Str)} {C Cr a : Addr} {xs : List Int} {n : Nat} {cdv : Value} {A : Around} {outer : List Env} {s : Shared} {H0 : Hp} {E : XK} (M : Mo mg) (hr : RL f cdv A s) :
    BlkS (XL P w K mg base f cdv A outer s H0 E) (stK 9) (Z2 K T C Cr a xs n) (Z3 K T C Cr a xs n) := by
  have hu1 := hu_of hr
  refine ⟨_, ps_setLc (i := 15) (own := [("_law_octet", 16)]) (g := gName 16) (tt := tB (tCB (rIsi K) (tCons (tDGet (tVar 5) (tVar 16)) (tCons (tC (.ty "int")) tNil)))) rfl sc_law.nd rfl rfl (sw_true rfl rfl rfl (by decide +kernel)) (pi_tup (pv 9))
    (blkOk_by (N := NL) (sc := defScope s_law) (by decide +kernel)) (fun _ _ _ _ _ => pg_name (i := 16) sc_law.nd rfl (Or.inl rfl))
    (fun _ _ _ _ _ => pts_one (pt_val (pe_callB call_isi (by rfl) M.isi b_isi (pa_cons (pe_dget hu1 (pv 5) (pv 16) (fun _ _ => rfl)) (pa_cons (pe_bltn (v := .ty "int") (by rfl) M.int b_int rfl) pa_nil)))))
    (fun _ _ _ _ _ => pv 16), ?_⟩
  rintro D σ H ⟨d, p1, p2, cs1, cs2, v11, v12, v13, v14, v15, v16, v17, rfl, fx, px, h1, h2, m1, m2, l1, l2⟩ hq
  refine ⟨_, rfl, p1, rfl, ⟨_, SqT.of h1⟩, fun Dd nD => ?_⟩
  refine lc_tup (K := K) (a := p1) (xs := cs1.map V.int) (fun i H6 => Same H H6 ∧ ∃ qs : List Int, H6 Dd = some (.lst (qs.map V.int)) ∧ (∀ o ∈ qs, ∃ c, (o, V.int c) ∈ d.rp) ∧ qs.length ≤ i)
    ⟨Same.upd nD, [], upd_same, fun o ho => absurd ho List.not_mem_nil, Nat.le_refl _⟩ (fun i H6 _ h => SqT.of (h.1 _ _ h1)) ?_ ?_
  · rintro i x H6 hx ⟨s6, qs, hD6, hm, hl⟩
    rw [List.getElem?_map] at hx
    cases z : cs1[i]? with
    | none => rw [z] at hx; cases hx
    | some o =>
      rw [z] at hx
      have ex : V.int o = x := Option.some.inj hx
      subst ex
      have hi := (List.getElem?_eq_some_iff.mp z).1
      obtain ⟨⟨o', v⟩, hqm, e⟩ := List.mem_map.mp (m1 o (List.mem_of_getElem? z))
      have e : o' = o := e
      subst e
      obtain ⟨en, hen⟩ := fx.vals _ hqm
      obtain ⟨b, ty, cu, hb1, hb2, hb3, hbv⟩ := isi_rd (K := K) (hen.ext (ExtN.same s6))
      refine ⟨rfl, _, rfl, _, rfl, d.d1, v, rfl, .inl ⟨_, Sum.inl o', .inl (s6 _ _ fx.rows), rfl, (valV_mapE px.rnd hqm).symm⟩, _, _, ty, cu, b, rfl, hb1, hb2, hb3, b, rfl, ?_⟩
      rcases hbv with ⟨rfl, c, rfl⟩ | ⟨rfl, _⟩
      · refine iteT ⟨_, rfl, qs.map V.int, hD6, by rw [List.length_map, sizeLine_eq]; omega, fun b u hb => ?_, qs ++ [o'], by rw [upd_same, List.map_append]; rfl, fun o2 ho2 => ?_, by rw [List.length_append, List.length_singleton]; omega⟩
        · rw [upd_ne (ne_of_none hb nD)]
          exact s6 _ _ hb
        · rcases List.mem_append.mp ho2 with ho2 | ho2
          · exact hm o2 ho2
          · rw [List.mem_singleton] at ho2
            subst ho2
            exact ⟨c, hqm⟩
      · exact iteF ⟨s6, qs, hD6, hm, by omega⟩
  · rintro H6 ⟨s6, qs, hD6, hm, hl⟩
    rw [List.length_map] at hl
    exact hq _ _ ⟨d, Dd, qs, _, _, v11, v12, v13, v14, v16, v17, rfl, fx.same s6, px, hD6, hm, by omega⟩
def Z4 (K : PySem.W.Frag) (T : List (Addr × Str)) (C Cr a : Addr) (xs : List Int) (n : Nat) (σ : L2.St) (H : Hp) : Prop :=
  ∃ (d : Dat) (pl gr : Addr) (qs : List Int) (gs : List (Int × Int)) (v9 v10 v11 v12 v13 v14 v16 : Option V), σ = Hd a d v9 v10 v11 v12 v13 v14 (some (.ref pl)) v16 (some (.ref gr)) ∧ Fx K T C Cr a xs d n H ∧ Px d.rp d.back d.gt d.gb ∧
    H pl = some (.lst (qs.map V.int)) ∧ (∀ o ∈ qs, ∃ c, (o, V.int c) ∈ d.rp) ∧ qs.length ≤ 12 ∧ H gr = some (.dK (mapB gs)) ∧ IsB (codesL d.rp) gs
theorem blk10 {T : List (Addr × Str)} {C Cr a : Addr} {xs : List Int} {n : Nat} {cdv : Value} {A : Around} {outer : List Env} {s : Shared} {H0 : Hp} {E : XK} (M : Mo mg) (hr : RL f cdv A s) :
    BlkS (XL P w K mg base f cdv A outer s H0 E) (stK 10) (Z3 K T C Cr a xs n) (Z4 K T C Cr a xs n) := by
  have hu1 := hu_of hr
  refine ⟨_, ps_set (i := 17) sc_law.nd rfl (.inr rfl) (pe_lock (pe_callTy (call_dictP rfl) (by rfl) M.dict b_dict (pa_cons (pe_lc (own := [("_law_octet", 16)]) (g := gName 16) (tt := tB (tCB (rIsi K) (tCons (tDGet (tVar 5) (tVar 16)) (tCons (tC (.ty "int")) tNil)))) rfl sc_law.nd (pi_keys (pv 5))
    (blkOk_by (N := NL) (sc := defScope s_law) (by decide +kernel)) (fun _ _ _ _ _ => pg_name (i := 16) sc_law.nd rfl (Or.inl rfl))
    (fun _ _ _ _ _ => pts_one (pt_val (pe_callB call_isi (by rfl) M.isi b_isi (pa_cons (pe_dget hu1 (pv 5) (pv 16) (fun _ _ => rfl)) (pa_cons (pe_bltn (v := .ty "int") (by rfl) M.int b_int rfl) pa_nil)))))
    (fun _ _ _ _ _ => pe_tup (pa_cons (pe_dget hu1 (pv 5) (pv 16) (fun _ _ => rfl)) (pa_cons (pv 16) pa_nil)))) pa_nil))), ?_⟩
  rintro D σ H ⟨d, pl, qs, v9, v10, v11, v12, v13, v14, v16, v17, rfl, fx, px, h1, m1, l1⟩ hq
  refine ⟨d.d1, _, fx.rows, trivial, fun od => ?_⟩
  refine ⟨_, rfl, d.d1, od, rfl, .inl ⟨_, upd_same, fun Dd nD => ?_⟩⟩
  have off : ∀ b o, H b = some o → o ≠ .dK (mapE d.rp) → upd H d.d1 (.frz od (.dK (mapE d.rp))) b = some o := fun b o hb no => by
    rw [upd_ne (ne_of hb fx.rows no)]
    exact hb
  refine lc_it (walk_keys (d := d.d1) (o := od) (kvs := mapE d.rp)) (fun i H6 => Same (upd H d.d1 (.frz od (.dK (mapE d.rp)))) H6 ∧ ∃ ts : List Addr, PrsL H6 Dd ts ((codesL (d.rp.take i)).map fun q => (q.1, V.int q.2)))
    ⟨Same.upd nD, [], upd_same, rfl, fun j t q h => by simp at h⟩ (fun i H6 _ h => h.1 _ _ upd_same) ?_ ?_
  · rintro i x H6 H7 hi ⟨s6, ts, hP⟩ ⟨rfl, k, v, hk, rfl⟩
    unfold mapE at hk
    rw [List.getElem?_map] at hk
    cases z : d.rp[i]? with
    | none => rw [z] at hk; cases hk
    | some q' =>
      obtain ⟨o, v'⟩ := q'
      rw [z] at hk
      have e : ((Sum.inl o : Key), v') = (k, v) := Option.some.inj hk
      injection e with e1 e2
      subst e1 e2
      have hqm := List.mem_of_getElem? z
      obtain ⟨en, hen⟩ := fx.vals _ hqm
      have hen7 : EntAt H7 v' en := by
        cases en with
        | hole => exact hen
        | code c => exact hen
        | txt cs =>
          obtain ⟨aa, f1, f2, f3⟩ := hen
          exact ⟨aa, f1, f2.elim (fun y => .inl (s6 _ _ (off _ _ y (by intro y; cases y)))) (fun y => .inr (s6 _ _ (off _ _ y (by intro y; cases y)))), f3⟩
      obtain ⟨b, ty, cu, hb1, hb2, hb3, hbv⟩ := isi_rd (K := K) hen7
      have hfz : H7 d.d1 = some (.frz od (.dK (mapE d.rp))) := s6 _ _ upd_same
      have hv := (valV_mapE px.rnd hqm).symm
      have hlen : ts.length ≤ 256 := by
        rw [hP.len, List.length_map]
        have a1 := codesL_len (d.rp.take i)
        rw [List.length_take] at a1
        have a2 := px.rl
        omega
      refine ⟨rfl, _, rfl, _, rfl, d.d1, v', rfl, .inl ⟨_, Sum.inl o, .inr ⟨od, hfz⟩, rfl, hv⟩, _, _, ty, cu, b, rfl, hb1, hb2, hb3, b, rfl, ?_⟩
      rcases hbv with ⟨rfl, c, rfl⟩ | ⟨rfl, hne⟩
      · refine iteT ⟨_, rfl, _, rfl, d.d1, .int c, rfl, .inl ⟨_, Sum.inl o, .inr ⟨od, hfz⟩, rfl, hv⟩, _, rfl, by show 2 ≤ sizeLine; decide, fun t nt => ?_⟩
        have nDt : Dd ≠ t := ne_of_none hP.lst nt
        refine ⟨ts.map V.ref, by rw [upd_ne nDt]; exact hP.lst, by rw [List.length_map, sizeLine_eq]; omega, fun b u hb => ?_, ts ++ [t], ?_⟩
        · rw [upd_ne (ne_of_none hb nD), upd_ne (ne_of_none (s6 _ _ hb) nt)]
          exact s6 _ _ hb
        · rw [codesL_take z, List.map_append]
          refine prs_snoc (q := (c, .int o)) hP (fun t' xs' ht' => ?_) ?_ ?_
          · rw [upd_ne (ne_of ht' hP.lst (by intro z; cases z)), upd_ne (ne_of_none ht' nt)]
            exact ht'
          · rw [upd_ne (Ne.symm nDt), upd_same]
            rfl
          · rw [upd_same, List.map_append]
            rfl
      · refine iteF ⟨s6, ts, ?_⟩
        have en0 : codeOf (o, v') = none := by
          cases v' with
          | int c => exact absurd rfl (hne c)
          | _ => rfl
        rw [codesL_take z, en0]
        show PrsL H7 Dd ts ((codesL (d.rp.take i) ++ []).map _)
        rw [List.append_nil]
        exact hP
  · rintro H6 ⟨s6, ts, hP⟩
    rw [show (mapE d.rp).length = d.rp.length by unfold mapE; rw [List.length_map], List.take_length] at hP
    refine ⟨Dd, ts, mapE _, rfl, SqL.of hP.lst, hP.pairs, fun p np => ?_⟩
    have hfz : H6 d.d1 = some (.frz od (.dK (mapE d.rp))) := s6 _ _ upd_same
    have nd1p : d.d1 ≠ p := ne_of_none hfz np
    have hB : IsB (codesL d.rp) ((codesL d.rp).foldl (fun b q => putB b q.1 q.2) []) := by
      have z := isB_fold (codesL d.rp) [] [] IsB.nil (codesL_asc px.asc) (fun q hq => absurd hq List.not_mem_nil)
      rw [List.nil_append] at z
      exact z
    have sH : Same H (upd (upd H6 p (.dK (mergeK [] (mapE ((codesL d.rp).map fun q => (q.1, V.int q.2)))))) d.d1 (.dK (mapE d.rp))) := fun b u hb => by
      by_cases e : b = d.d1
      · subst e
        rw [upd_same]
        rw [fx.rows] at hb
        exact hb
      · rw [upd_ne e]
        have z := s6 b u (by rw [upd_ne e]; exact hb)
        rw [upd_ne (ne_of_none z np)]
        exact z
    refine ⟨by rw [upd_ne nd1p]; exact hfz, ?_⟩
    refine hq _ _ ⟨d, pl, p, qs, _, v9, v10, v11, v12, v13, v14, v16, rfl, fx.same sH, px, sH _ _ h1, m1, l1, ?_, hB⟩
    rw [upd_ne (Ne.symm nd1p), upd_same, mapE_mapB]
    have e := merge_mapB (codesL d.rp) []
    exact congrArg some (congrArg HO.dK e)
end K58


set_option Elab.async false
set_option linter.all false
set_option maxRecDepth 100000
set_option maxHeartbeats 8000000
namespace K58
open PySem PySem.Spec PyProof.Rows L2
variable {P : Program} {w : World} {K : PySem.W.Frag} {mg : Str → Option Value} {base : Heap} {f : Addr} {fd : FuncData}
/-- what stands at the end of a round -/
def Y (K : PySem.W.Frag) (T : List (Addr × Str)) (Cr a : Addr) (xs : List Int) (σ : L2.St) (H : Hp) : Prop :=
  ∃ (r : Addr) (v2 v3 v4 v5 v6 v7 v8 v9 v10 v11 v12 v13 v14 v15 v16 v17 : Option V), σ = [some (.ref a), some (.ref r), v2, v3, v4, v5, v6, v7, v8, v9, v10, v11, v12, v13, v14, v15, v16, v17] ∧ SqL K H a (xs.map V.int) ∧ RegAt Cr H r ∧ LamX.Tabs T H
theorem blk11 {T : List (Addr × Str)} {C Cr a : Addr} {xs : List Int} {n : Nat} {cdv : Value} {A : Around} {outer : List Env} {s : Shared} {H0 : Hp} {E : XK} (M : Mo mg) (CE : CalE P w K mg base C) (CD : CalD P w K mg base C) (hr : RL f cdv A s) :
    BlkS (XL P w K mg base f cdv A outer s H0 E) (stK 11) (Z4 K T C Cr a xs n) (Y K T Cr a xs) := by
  have hu1 := hu_of hr
  have hu := hu64 hr
  have hr3 := hr.mono (by decide : 3 ≤ 5)
  refine ⟨_, ps_if (pt_cmpR (op_neT hu) (pe_ix ix_tup (pe_m CE hr3 (pv 7) (pa_cons (pe_ix ix_tup (pe_m CD hr3 (pv 7) (pa_cons (pv 15) pa_nil)) pe_int (fun _ _ => rfl)) pa_nil)) pe_int (fun _ _ => rfl))
    (pe_callTy call_tupA (by rfl) M.tuple b_tuple (pa_cons (pe_lc (own := [("_law_octet", 16)]) (g := gName 16) (tt := tYes) rfl sc_law.nd (pi_list (pv 15))
      (blkOk_by (N := NL) (sc := defScope s_law) (by decide +kernel)) (fun _ _ _ _ _ => pg_name (i := 16) sc_law.nd rfl (Or.inl rfl)) (fun _ _ _ _ _ => pts_nil)
      (fun _ _ _ _ _ => pe_dget hu1 (pv 17) (pe_dget hu1 (pv 5) (pv 16) (fun _ _ => rfl)) (fun _ _ => rfl))) pa_nil)) (nomark _)) pss_never pss_nil, ?_⟩
  rintro D σ H ⟨d, pl, gr, qs, gs, v9, v10, v11, v12, v13, v14, v16, rfl, fx, px, h1, m1, l1, hgr, hB⟩ hq
  obtain ⟨cs, kc, gc⟩ := choose (fun o c => (o, V.int c) ∈ d.rp) qs m1
  obtain ⟨os, ko, go⟩ := choose (fun c o => G d.rp c o ∧ d.gb c [o]) cs fun c hc => by
    obtain ⟨j, hj⟩ := List.mem_iff_getElem?.mp hc
    have hlt : j < qs.length := by rw [← kc]; exact (List.getElem?_eq_some_iff.mp hj).1
    exact (px.one _ c (gc j _ c (List.getElem?_eq_getElem hlt) hj)).2
  have F1 : Fa d.gt qs (sing cs) := Fa.sing kc fun i o c x y => (px.one o c (gc i o c x y)).1
  have F2 : Fa d.gb cs (sing os) := Fa.sing ko fun i c o x y => (go i c o x y).2
  have ll : ∀ l : List Int, l.length ≤ 100 → (sing l).flatten.length ≤ 1000 := fun l h => by rw [len_sing]; omega
  refine enc_rd rfl fx.k0 F2 (ll _ (by omega)) (fun R hR => ?_) fun H5 q s5 hq5 => ?_
  · refine dec_rd rfl fx.k0 F1 (ll _ (by omega)) (arg_var rfl (.inl h1)) fun H1 p s1 hp => ?_
    rw [sing_flat] at hp
    exact hR H1 p s1 (.inr hp)
  · rw [sing_flat] at hq5
    refine ⟨_, rfl, pl, rfl, ⟨_, SqL.of (s5 _ _ h1)⟩, fun Dd nD => ?_⟩
    refine lc_list (K := K) (a := pl) (xs := qs.map V.int) (fun i H6 => Same H5 H6 ∧ H6 Dd = some (.lst ((os.take i).map V.int))) ⟨Same.upd nD, upd_same⟩ (fun i H6 _ h => SqL.of (h.1 _ _ (s5 _ _ h1))) ?_ ?_
    · rintro i x H6 hx ⟨s6, hD6⟩
      rw [List.getElem?_map] at hx
      cases z : qs[i]? with
      | none => rw [z] at hx; cases hx
      | some o =>
        rw [z] at hx
        have ex : V.int o = x := Option.some.inj hx
        subst ex
        have hi := (List.getElem?_eq_some_iff.mp z).1
        have hc : cs[i]? = some (cs[i]'(by omega)) := List.getElem?_eq_getElem (by omega)
        have ho : os[i]? = some (os[i]'(by omega)) := List.getElem?_eq_getElem (by omega)
        have hm := gc i _ _ z hc
        have hg := (go i _ _ hc ho).1
        have s56 := s5.trans s6
        refine ⟨rfl, ?_⟩
        dsimp only [tYes]
        rw [if_pos rfl]
        refine ⟨_, rfl, _, rfl, _, rfl, d.d1, .int (cs[i]'(by omega)), rfl, .inl ⟨_, Sum.inl o, .inl (s56 _ _ fx.rows), rfl, (valV_mapE px.rnd hm).symm⟩, gr, .int (os[i]'(by omega)), rfl, .inl ⟨_, Sum.inl (cs[i]'(by omega)), .inl (s56 _ _ hgr), rfl, (valV_mapB hB.nd ((hB.g _ _).mpr hg)).symm⟩, ?_⟩
        refine ⟨_, hD6, by rw [List.length_map, List.length_take, sizeLine_eq]; omega, fun b u hb => ?_, ?_⟩
        · rw [upd_ne (ne_of_none hb nD)]
          exact s6 _ _ hb
        · rw [upd_same, List.take_add_one, ho, List.map_append]
          rfl
    · rintro H6 ⟨s6, hD6⟩
      rw [List.length_map, show qs.length = os.length by rw [ko, kc], List.take_length] at hD6
      refine ⟨Dd, _, rfl, .inl hD6, fun H7 t s7 ht => ?_⟩
      have s57 := s6.trans s7
      refine ⟨q, t, os, rfl, rfl, SqT.of (s57 _ _ hq5), SqT.of ht, false, rfl, iteF ?_⟩
      have fx7 := fx.same (s5.trans s57)
      exact hq _ _ ⟨d.r, _, _, _, _, _, _, _, _, _, _, _, _, _, _, _, _, rfl, fx7.scr.elim (fun z => .inl z.2) .inr, fx7.reg, fx7.tabs⟩
end K58


set_option Elab.async false
set_option linter.all false
set_option maxRecDepth 100000
set_option maxHeartbeats 8000000
namespace K58
open PySem PySem.Spec PyProof.Rows L2
variable {P : Program} {w : World} {K : PySem.W.Frag} {mg : Str → Option Value} {base : Heap} {f : Addr} {fd : FuncData}
/-- at the beginning of a round -/
def Yk (K : PySem.W.Frag) (T : List (Addr × Str)) (Cr a : Addr) (xs : List Int) (σ : L2.St) (H : Hp) : Prop :=
  ∃ (r : Addr) (k : Int) (v3 v4 v5 v6 v7 v8 v9 v10 v11 v12 v13 v14 v15 v16 v17 : Option V), σ = [some (.ref a), some (.ref r), some (.int k), v3, v4, v5, v6, v7, v8, v9, v10, v11, v12, v13, v14, v15, v16, v17] ∧ 0 ≤ k ∧ k ≤ 5 ∧ SqL K H a (xs.map V.int) ∧ RegAt Cr H r ∧ LamX.Tabs T H
theorem ent_int {H : Hp} {c : Int} {e : Ent} (h : EntAt H (.int c) e) : EntAt H (.int c) (.code c) := by
  cases e with
  | hole => cases (h : V.int c = .non)
  | code c' =>
    obtain ⟨e1, e2⟩ := h
    have e3 := V.int.inj e1
    subst e3
    exact ⟨rfl, e2⟩
  | txt cs =>
    obtain ⟨_, e1, _⟩ := h
    cases e1
theorem ent_len {H : Hp} {v : V} {e : Ent} (h : EntAt H v e) : e.cs.length ≤ 2 := by
  cases e with
  | hole => exact Nat.zero_le _
  | code c => show 1 ≤ 2; decide
  | txt cs =>
    obtain ⟨_, _, _, _, e⟩ := h
    exact e
theorem blk04 {T : List (Addr × Str)} {C Cr a : Addr} {xs : List Int} {cdv : Value} {A : Around} {outer : List Env} {s : Shared} {H0 : Hp} {E : XK}
    (SR : Cal P w K mg base "_law_source" 1 ["_law_script", "_law_k"] [] (spSrc K)) (TA : Cal P w K mg base "_law_charmap_table" 4 ["_law_source_here"] [] spTable) (LE : Cal P w K mg base "_law_entries" 2 ["_law_some_here"] [] (spLent T)) (WB : Cal P w K mg base "way_back" 4 ["table"] [] (spBack T))
    {rest : List Stmt} {Rr : L2.St → Hp → Prop} (hB : Blk (XL P w K mg base f cdv A outer s H0 E) rest (Z K T C Cr a xs 600) Rr)
    (CMn : CalM P w K mg base Cr "charmap" 5 ["self", "name", "table", "back"] [.non] (spChm T C)) (CMa : CalM P w K mg base Cr "charmap" 5 ["self", "name", "table", "back"] [] (spChm T C)) (hr : RL f cdv A s) :
    Blk (XL P w K mg base f cdv A outer s H0 E) (stK 0 :: stK 1 :: stK 2 :: stK 3 :: stK 4 :: rest) (Yk K T Cr a xs) Rr := by
  obtain ⟨u, g1, g2⟩ := hB.ex
  have hr1 := hr.mono (by decide : 1 ≤ 5)
  have hr2 := hr.mono (by decide : 2 ≤ 5)
  have hr4 := hr.mono (by decide : 4 ≤ 5)
  refine ⟨_, pss_cons (ps_set (i := 3) sc_law.nd rfl (.inr rfl) (pe_c SR hr1 (pa_cons (pv 0) (pa_cons (pv 2) pa_nil))))
    (pss_cons (ps_set (i := 4) sc_law.nd rfl (.inl rfl) (pe_c TA hr4 (pa_cons (pv 3) pa_nil)))
    (pss_cons (ps_asg (pe_tup (pa_cons (pe_c LE hr2 (pa_cons (pv 4) pa_nil)) (pa_cons (pe_c WB hr4 (pa_cons (pv 4) pa_nil)) pa_nil))) (pg_tup rfl (pgs_cons (pg_name (i := 5) sc_law.nd rfl (.inr rfl)) (pgs_cons (pg_name (i := 6) sc_law.nd rfl (.inr rfl)) pgs_nil))))
    (pss_cons (ps_set (i := 7) sc_law.nd rfl (.inl rfl) (pe_m CMn hr (pv 1) (pa_cons pe_str (pa_cons (pv 4) pa_nil))))
    (pss_cons (ps_set (i := 8) sc_law.nd rfl (.inl rfl) (pe_lst (pa_cons (pe_m CMa hr (pv 1) (pa_cons pe_str (pa_cons (pv 5) (pa_cons (pv 6) pa_nil)))) (pa_cons (pe_m CMa hr (pv 1) (pa_cons pe_str (pa_cons (pe_lst pa_nil) (pa_cons (pv 6) pa_nil)))) (pa_cons (pe_m CMn hr (pv 1) (pa_cons pe_str (pa_cons (pv 5) pa_nil))) pa_nil))))) g1)))), ?_⟩
  rintro D σ H ⟨r, k, v3, v4, v5, v6, v7, v8, v9, v10, v11, v12, v13, v14, v15, v16, v17, rfl, k0, k5, ha, hreg, hTb⟩ hq
  -- the source
  refine ⟨_, rfl, _, rfl, a, xs, k, rfl, ha, k0, k5, fun H1 sa s1 nsa hs1 => ?_⟩
  -- the table
  refine ⟨_, rfl, sa, 0, rfl, hs1, by decide, fun H2 tb prs b2 h2 hT hG => ?_⟩
  rw [Nat.zero_add] at h2
  have t1 := tabs_same hTb s1
  have t2 := tabs_but t1 hs1 b2
  have ha1 : (a ≠ sa ∧ Rd H1 a (.lst (xs.map V.int))) ∨ KL K a xs := ha.elim (fun z => .inl ⟨z.elim (fun y => ne_of_none y nsa) (fun ⟨_, y⟩ => ne_of_none y nsa), Rd.ext z (ExtN.same s1)⟩) .inr
  have ha2 : (a ≠ sa ∧ Rd H2 a (.lst (xs.map V.int))) ∨ KL K a xs := ha1.elim (fun z => .inl ⟨z.1, Rd.but z.2 b2 z.1⟩) .inr
  have hreg2 := (hreg.ext (ExtN.same s1)).src hs1 b2
  -- the rows
  refine ⟨_, rfl, tb, prs, rfl, hT, hG, t2, fun H3 d1 rp x3 t3 hd1 hrp => ?_⟩
  -- the way back
  refine ⟨_, rfl, tb, prs, rfl, hT.ext x3, hG.ext x3, t3, fun H4 d2 back x4 t4 hd2 hgb => ⟨by show 2 ≤ sizeLine; decide, fun pp npp => ?_⟩⟩
  refine ⟨pp, _, rfl, SqT.of upd_same, rfl, _, _, rfl, _, _, rfl, rfl, ?_⟩
  have s5 : Same H4 (upd H4 pp (.tup [.ref d1, .ref d2])) := Same.upd npp
  have x35 : LamX.ExtN H3 (upd H4 pp (.tup [.ref d1, .ref d2])) := LamX.ExtN.trans x4 (ExtN.same s5)
  have x25 : LamX.ExtN H2 (upd H4 pp (.tup [.ref d1, .ref d2])) := LamX.ExtN.trans x3 x35
  have t5 := tabs_same t4 s5
  have hd15 := x35 _ _ hd1 (fun _ q => by cases q)
  have hd25 := s5 _ _ hd2
  have hT5 := hT.ext x25
  have hG5 := hG.ext x25
  have hreg5 := hreg2.ext x25
  have hs5 := h2.ext x25
  have ha5 : (a ≠ sa ∧ Rd (upd H4 pp (.tup [.ref d1, .ref d2])) a (.lst (xs.map V.int))) ∨ KL K a xs := ha2.elim (fun z => .inl ⟨z.1, Rd.ext z.2 x25⟩) .inr
  generalize upd H4 pp (.tup [.ref d1, .ref d2]) = H5 at *
  -- the codec
  have hreg5' := hreg5
  obtain ⟨dx, fs, hr5, hlk⟩ := hreg5'
  refine ⟨_, rfl, r, dx, fs, rfl, hr5, hlk, _, rfl, ?_⟩
  refine ⟨r, tb, _, _, prs, prs, rfl, hT5, hG5, t5, .inl ⟨rfl, rfl⟩, fun H6 c0 x6 t6 hc0 => ?_⟩
  -- the others
  have hrm : ∀ q, q ∈ rp → q ∈ prs := fun q h => ((hrp.mem q).mp h).1
  have hgood : ∀ {Hx : Hp}, GoodP Hx prs → GoodP Hx rp := fun g => ⟨hrp.len, hrp.nd, fun q hq => g.ok q (hrm q hq)⟩
  have hG6 := hG5.ext x6
  have hok := isG_ok hG5 hgb
  have hint : ∀ o c, (o, V.int c) ∈ rp ↔ (o, V.int c) ∈ prs := fun o c => by
    rw [hrp.mem]
    exact ⟨fun z => z.1, fun z => ⟨z, by intro y; cases y⟩⟩
  have hd16 := x6 _ _ hd15 (fun _ q => by cases q)
  have hd26 := x6 _ _ hd25 (fun _ q => by cases q)
  refine ⟨_, rfl, r, dx, fs, rfl, x6 _ _ hr5 (fun _ q => by cases q), hlk, _, rfl, _, rfl, ?_⟩
  refine ⟨r, d1, _, _, rp, prs, rfl, .inr hd16, hgood hG6, t6, .inr ⟨d2, back, rfl, hd26, hgb, hok⟩, fun H7 c1 x7 t7 hc1 => ?_⟩
  have x57 := LamX.ExtN.trans x6 x7
  refine ⟨_, rfl, r, dx, fs, rfl, x57 _ _ hr5 (fun _ q => by cases q), hlk, by show 0 ≤ sizeLine; decide, fun l nl => ⟨_, rfl, ?_⟩⟩
  have s8 : Same H7 (upd H7 l (.lst [])) := Same.upd nl
  have x58 := LamX.ExtN.trans x57 (ExtN.same s8)
  refine ⟨r, l, _, _, [], prs, rfl, .inl ⟨[], .inl upd_same, rfl⟩, ⟨Nat.zero_le _, List.Pairwise.nil, fun q hq => absurd hq List.not_mem_nil⟩, tabs_same t7 s8, .inr ⟨d2, back, rfl, x58 _ _ hd25 (fun _ q => by cases q), hgb, hok⟩, fun H8 c2 x8 t8 hc2 => ?_⟩
  have x59 := LamX.ExtN.trans x58 x8
  refine ⟨_, rfl, r, dx, fs, rfl, x59 _ _ hr5 (fun _ q => by cases q), hlk, _, rfl, ?_⟩
  refine ⟨r, d1, _, _, rp, rp, rfl, .inr (x59 _ _ hd15 (fun _ q => by cases q)), hgood (hG5.ext x59), t8, .inl ⟨rfl, rfl⟩, fun H9 c3 x9 t9 hc3 => ⟨by show 3 ≤ sizeLine; decide, fun o no => ?_⟩⟩
  have x510 := LamX.ExtN.trans x59 x9
  have s10 : Same H9 (upd H9 o (.lst [.ref c1, .ref c2, .ref c3])) := Same.upd no
  have xF := LamX.ExtN.trans x510 (ExtN.same s10)
  have hsF := hs5.ext xF
  have nos : o ≠ sa := fun z => by
    subst z
    obtain ⟨_, _, _, hh, _⟩ := hs5.ext x510
    cases (no.symm.trans hh)
  have rt : ∀ {Hx : Hp}, LamX.ExtN H5 Hx → ∀ o l, RT H5 prs o l → RT Hx rp o l := fun x o l ⟨v, e, m, he, hn, el⟩ => ⟨v, e, (hrp.mem _).mpr ⟨m, hn⟩, he.ext x, hn, el⟩
  have wr : ∀ c l, W prs c l → W rp c l := fun c l ⟨o, g, e⟩ => ⟨o, g.congr fun o c => (hint o c).symm, e⟩
  have codeE : ∀ o c, (o, V.int c) ∈ prs → RT H5 prs o [c] := fun o c hm => by
    obtain ⟨_, _, e, he⟩ := hG5.ok _ hm
    exact ⟨.int c, .code c, hm, ent_int he, (by intro z; cases z), rfl⟩
  refine g2 D _ _ ⟨⟨r, sa, tb, d1, d2, c0, c1, c2, c3, o, k, rp, back, RT H5 prs, W prs⟩, v9, v10, v11, v12, v13, v14, v15, v16, v17, rfl, ⟨ha5.elim (fun z => .inl ⟨z.1, Rd.ext z.2 xF⟩) .inr, hreg5.ext xF, tabs_same t9 s10, hsF, xF _ _ hd15 (fun _ q => by cases q), xF _ _ hd25 (fun _ q => by cases q), ?_, ?_, ?_, ?_, upd_same, nos, ?_⟩, ?_⟩ hq
  · exact hc0.ext (LamX.ExtN.trans x7 (LamX.ExtN.trans (ExtN.same s8) (LamX.ExtN.trans x8 (LamX.ExtN.trans x9 (ExtN.same s10)))))
  · exact (hc1.mono (rt x6) (fun _ _ z => z)).ext (LamX.ExtN.trans (ExtN.same s8) (LamX.ExtN.trans x8 (LamX.ExtN.trans x9 (ExtN.same s10))))
  · exact (hc2.mono (fun _ _ z => False.elim z) (fun _ _ z => z)).ext (LamX.ExtN.trans x9 (ExtN.same s10))
  · exact (hc3.mono (rt x59) wr).ext (ExtN.same s10)
  · intro q hq
    obtain ⟨_, _, e, he⟩ := hG5.ok q (hrm q hq)
    exact ⟨e, he.ext xF⟩
  · refine ⟨hgb.nd, hgb.len, hrp.nd, hrp.len, hrp.asc, fun c hc => ?_, fun q hq => ?_, fun o c hm => ⟨codeE o c (hrm _ hm), ?_⟩⟩
    · obtain ⟨⟨c', o'⟩, hm, e⟩ := List.mem_map.mp hc
      have e : c' = c := e
      subst e
      have g := (hgb.mem c' o').mp hm
      exact ⟨o', ⟨o', g, rfl⟩, codeE o' c' g.1⟩
    · obtain ⟨hm, hn⟩ := (hrp.mem q).mp hq
      obtain ⟨_, _, e, he⟩ := hG5.ok q hm
      exact ⟨e.cs, ⟨q.2, e, hm, he, hn, rfl⟩, ent_len he⟩
    · obtain ⟨o', g⟩ := G.ex hm
      exact ⟨o', g, o', g.congr hint, rfl⟩
end K58


set_option Elab.async false
set_option linter.all false
set_option maxRecDepth 100000
set_option maxHeartbeats 8000000
namespace K58
open PySem PySem.Spec PyProof.Rows L2
variable {P : Program} {w : World} {K : PySem.W.Frag} {mg : Str → Option Value} {base : Heap} {f : Addr} {fd : FuncData}
theorem kb_eq : kb = [stK 0, stK 1, stK 2, stK 3, stK 4, stK 5, stK 6, stK 7, stK 8, stK 9, stK 10, stK 11] := by rfl
/-- one round -/
theorem blkK {T : List (Addr × Str)} {C Cr a : Addr} {xs : List Int} {cdv : Value} {A : Around} {outer : List Env} {s : Shared} {H0 : Hp} {E : XK} (M : Mo mg) (cmp : R58.cmpB K C = true)
    (SR : Cal P w K mg base "_law_source" 1 ["_law_script", "_law_k"] [] (spSrc K)) (TA : Cal P w K mg base "_law_charmap_table" 4 ["_law_source_here"] [] spTable) (LE : Cal P w K mg base "_law_entries" 2 ["_law_some_here"] [] (spLent T)) (WB : Cal P w K mg base "way_back" 4 ["table"] [] (spBack T))
    (CMn : CalM P w K mg base Cr "charmap" 5 ["self", "name", "table", "back"] [.non] (spChm T C)) (CMa : CalM P w K mg base Cr "charmap" 5 ["self", "name", "table", "back"] [] (spChm T C)) (SO : CalS P w K mg base) (CE : CalE P w K mg base C) (CD : CalD P w K mg base C) (hr : RL f cdv A s) :
    Blk (XL P w K mg base f cdv A outer s H0 E) kb (Yk K T Cr a xs) (Y K T Cr a xs) := by
  rw [kb_eq]
  refine blk04 SR TA LE WB ?_ CMn CMa hr
  refine (blk5 (by decide) M SO hr).cons ((blk6 M cmp CE CD hr).cons ((blk7 (by decide) M SO hr).cons ((blk8 M CD hr).cons ((blk9 M hr).cons ((blk10 M hr).cons (blk11 M CE CD hr).one)))))
def spLaw (K : PySem.W.Frag) (T : List (Addr × Str)) : Sp := fun vs H Q _ => ∃ (a : Addr) (xs : List Int), vs = [.ref a] ∧ SqL K H a (xs.map V.int) ∧ LamX.Tabs T H ∧ ∀ H', Q (.bl true) H'
theorem ok_law {T : List (Addr × Str)} {C Cr : Addr} (F : FD K d_law f fd) (M : Mo mg) (cmp : R58.cmpB K C = true) (RG : CalC P w K mg base "Registry" Cr 1 ["self"] [] (spReg Cr))
    (SR : Cal P w K mg base "_law_source" 1 ["_law_script", "_law_k"] [] (spSrc K)) (TA : Cal P w K mg base "_law_charmap_table" 4 ["_law_source_here"] [] spTable) (LE : Cal P w K mg base "_law_entries" 2 ["_law_some_here"] [] (spLent T)) (WB : Cal P w K mg base "way_back" 4 ["table"] [] (spBack T))
    (CMn : CalM P w K mg base Cr "charmap" 5 ["self", "name", "table", "back"] [.non] (spChm T C)) (CMa : CalM P w K mg base Cr "charmap" 5 ["self", "name", "table", "back"] [] (spChm T C)) (SO : CalS P w K mg base) (CE : CalE P w K mg base C) (CD : CalD P w K mg base C) :
    FnOk P w K mg base CX0 6 f fd ["_law_script"] (spLaw K T) := by
  refine ok0 F sc_law (fun vs H Q E h => ?_) fun cdv A outer s H vs Q E ec hr h => ?_
  · obtain ⟨_, _, rfl, _⟩ := h
    rfl
  · obtain ⟨a, xs, rfl, ha, hTb, q⟩ := h
    obtain ⟨tb, kb1, kb2⟩ := (blkK (f := f) (a := a) (xs := xs) (cdv := cdv) (A := A) (outer := outer) (s := s) (H0 := H) (E := E) M cmp SR TA LE WB CMn CMa SO CE CD hr).ex
    refine ⟨_, pss_cons (ps_set (i := 1) sc_law.nd rfl (.inl rfl) (pe_mk0 RG (hr.mono (by decide)))) (pss_cons (ps_for PassesOwn.never rfl (pi_range1 (by rfl) M.range (pa_cons pe_int pa_nil)) (pg_name (i := 2) sc_law.nd rfl (.inl rfl)) kb1)
      (pss_one (ps_ret pe_bl))), ?_⟩
    intro x dx nx ndx ne
    refine ⟨x, dx, rfl, upd_same, fun H1 b1 hreg => ⟨rfl, ?_⟩⟩
    have s1 : Same H H1 := But.new2 nx ndx b1
    refine ⟨6, rfl, by decide, by decide, for_range (lo := 0) (n := 6) (fun i σ3 H3 => Y K T Cr a xs σ3 H3) ?_ ?_ ?_⟩
    · exact ⟨x, _, _, _, _, _, _, _, _, _, _, _, _, _, _, _, _, rfl, Same.seq s1 ha, hreg, tabs_same hTb s1⟩
    · rintro i σ3 H3 hi ⟨r, v2, v3, v4, v5, v6, v7, v8, v9, v10, v11, v12, v13, v14, v15, v16, v17, rfl, h1, h2, h3⟩
      exact kb2 _ _ _ ⟨r, 0 + (i : Int), v3, v4, v5, v6, v7, v8, v9, v10, v11, v12, v13, v14, v15, v16, v17, rfl, by omega, by omega, h1, h2, h3⟩ fun σ' H' z => z
    · rintro σ3 H3 _
      exact q H3
end K58


set_option Elab.async false
set_option linter.all false
set_option maxRecDepth 100000
set_option maxHeartbeats 8000000
namespace K58
open PySem PySem.Spec PyProof.Rows L2
variable {P : Program} {w : World} {K : PySem.W.Frag} {mg : Str → Option Value} {base : Heap} {f : Addr} {fd : FuncData}
theorem lt_of {x qual : Str} {params : Arguments} {body : List Stmt} {scope : Scope} {dvs : List V} {kws : List (Str × V)} {p : Str × Option Str} {T : List (Addr × Str)} (F : FunD K x qual params body scope dvs kws (He.fAd K p) fd) (tab : LamX.TabB base mg (He.cT K p).1 (He.cT K p).2)
    (mem : ((He.cT K p).2, qual ++ ".<locals>." ++ "<lambda>") ∈ T) (hu : ∀ q ∈ T, q.1 = (He.cT K p).2 → q.2 = qual ++ ".<locals>." ++ "<lambda>") : LT base mg T fd qual := by
  obtain ⟨oc, od, dV, kV, doc, pm, an, cdv, ct, osl, rfl, lk, hcd, _, _⟩ := F.ex
  obtain ⟨cc, rfl⟩ := He.codeIn_ref hcd
  have e : He.codeOf K p = cc := He.codeOf_eq lk rfl
  refine ⟨cc, (He.cT K p).2, rfl, ?_, mem, hu⟩
  have e2 : (He.cT K p).1 = cc := e
  rw [← e2]
  exact tab
def qE : Str := Str.ofString "entries_of" ++ ".<locals>." ++ "<lambda>"
def qL : Str := Str.ofString "_law_entries" ++ ".<locals>." ++ "<lambda>"
def TT2 (K : PySem.W.Frag) : List (Addr × Str) := [((He.cT K ("entries_of", none)).2, qE), ((He.cT K ("_law_entries", none)).2, qL)]
def cs2 (K : PySem.W.Frag) : List (Addr × Addr) := [He.cT K ("entries_of", none), He.cT K ("_law_entries", none)]
theorem facts {h : Heap} (X : K.In h) (G : h.Ns mainGlobals mg) (hfa : mg ("law" : Str) = some (.ref f)) (c : Y58.SaysY fa fn tf ex h K) :
    LamX.LawAtS PySem.Challenge.rw_signferry_k58_whole_charmaps_both_ways w K CX0 6 63 "_law_script" mg f h := by
  have hex := c.more
  unfold ex at hex
  obtain ⟨cmp, hne⟩ := He.ba hex
  have hne := of_decide_eq_true hne
  obtain ⟨fd0, F0⟩ := c.d.def_ 0 (d := d_is_integer) rfl
  obtain ⟨fd1, F1⟩ := c.d.def_ 1 (d := d_is_row) rfl
  obtain ⟨fd2, F2⟩ := c.d.def_ 2 (d := d_are_codes) rfl
  obtain ⟨fd3, F3⟩ := c.d.def_ 3 (d := d_is_code) rfl
  obtain ⟨fd4, F4⟩ := c.d.def_ 4 (d := d_is_octet) rfl
  obtain ⟨fd5, F5⟩ := c.d.def_ 5 (d := d_entries_of) rfl
  obtain ⟨fd6, F6⟩ := c.d.def_ 6 (d := d_way_back) rfl
  obtain ⟨fd7, F7⟩ := c.d.def_ 7 (d := d_checked_table) rfl
  obtain ⟨fd8, F8⟩ := c.d.def_ 8 (d := d_checked_back) rfl
  obtain ⟨fd9, F9⟩ := c.d.def_ 9 (d := d_write_charmap) rfl
  obtain ⟨fd10, F10⟩ := c.d.def_ 10 (d := d_read_charmap) rfl
  obtain ⟨fd11, F11⟩ := c.d.def_ 11 (d := d_law_source) rfl
  obtain ⟨fd12, F12⟩ := c.d.def_ 12 (d := d_law_draw) rfl
  obtain ⟨fd13, F13⟩ := c.d.def_ 13 (d := d_law_pick) rfl
  obtain ⟨fd14, F14⟩ := c.d.def_ 14 (d := d_law_shuffled) rfl
  obtain ⟨fd15, F15⟩ := c.d.def_ 15 (d := d_law_handed) rfl
  obtain ⟨fd16, F16⟩ := c.d.def_ 16 (d := d_law_entry) rfl
  obtain ⟨fd17, F17⟩ := c.d.def_ 17 (d := d_law_charmap_table) rfl
  obtain ⟨fd18, F18⟩ := c.d.def_ 18 (d := d_law_entries) rfl
  obtain ⟨fd19, F19⟩ := c.d.def_ 19 (d := d_law_some) rfl
  obtain ⟨fd20, F20⟩ := c.d.def_ 20 (d := d_law) rfl
  obtain ⟨fd21, F21⟩ := c.d.def_ 21 (d := d_answers_init) rfl
  obtain ⟨fd22, F22⟩ := c.d.def_ 22 (d := d_codec_init) rfl
  obtain ⟨fd23, F23⟩ := c.d.def_ 23 (d := d_codec_encoded) rfl
  obtain ⟨fd24, F24⟩ := c.d.def_ 24 (d := d_codec_decoded) rfl
  obtain ⟨fd25, F25⟩ := c.d.def_ 25 (d := d_registry_init) rfl
  obtain ⟨fd26, F26⟩ := c.d.def_ 26 (d := d_registry_charmap) rfl
  have M : Mo mg := ⟨He.free_ok X G (c.d.fact 21 (f := .free "isinstance") rfl), He.free_ok X G (c.d.fact 22 (f := .free "int") rfl), He.free_ok X G (c.d.fact 23 (f := .free "bool") rfl), He.free_ok X G (c.d.fact 24 (f := .free "tuple") rfl), He.free_ok X G (c.d.fact 25 (f := .free "list") rfl), He.free_ok X G (c.d.fact 26 (f := .free "dict") rfl), He.free_ok X G (c.d.fact 27 (f := .free "enumerate") rfl), He.free_ok X G (c.d.fact 28 (f := .free "sorted") rfl), He.free_ok X G (c.d.fact 29 (f := .free "all") rfl), He.free_ok X G (c.d.fact 30 (f := .free "len") rfl), He.free_ok X G (c.d.fact 31 (f := .free "range") rfl), He.int_ok X G (c.d.fact 32 (f := .int "GREATEST" 1114111) rfl)⟩
  have g0 : mg "is_integer" = some (.ref (He.ga K "is_integer")) := He.glo_ok X G (c.d.fact 0 (f := .glo "is_integer") rfl)
  have g1 : mg "is_row" = some (.ref (He.ga K "is_row")) := He.glo_ok X G (c.d.fact 1 (f := .glo "is_row") rfl)
  have g2 : mg "are_codes" = some (.ref (He.ga K "are_codes")) := He.glo_ok X G (c.d.fact 2 (f := .glo "are_codes") rfl)
  have g3 : mg "is_code" = some (.ref (He.ga K "is_code")) := He.glo_ok X G (c.d.fact 3 (f := .glo "is_code") rfl)
  have g4 : mg "is_octet" = some (.ref (He.ga K "is_octet")) := He.glo_ok X G (c.d.fact 4 (f := .glo "is_octet") rfl)
  have g5 : mg "entries_of" = some (.ref (He.ga K "entries_of")) := He.glo_ok X G (c.d.fact 5 (f := .glo "entries_of") rfl)
  have g6 : mg "way_back" = some (.ref (He.ga K "way_back")) := He.glo_ok X G (c.d.fact 6 (f := .glo "way_back") rfl)
  have g7 : mg "checked_table" = some (.ref (He.ga K "checked_table")) := He.glo_ok X G (c.d.fact 7 (f := .glo "checked_table") rfl)
  have g8 : mg "checked_back" = some (.ref (He.ga K "checked_back")) := He.glo_ok X G (c.d.fact 8 (f := .glo "checked_back") rfl)
  have g9 : mg "write_charmap" = some (.ref (He.ga K "write_charmap")) := He.glo_ok X G (c.d.fact 9 (f := .glo "write_charmap") rfl)
  have g10 : mg "read_charmap" = some (.ref (He.ga K "read_charmap")) := He.glo_ok X G (c.d.fact 10 (f := .glo "read_charmap") rfl)
  have g11 : mg "_law_source" = some (.ref (He.ga K "_law_source")) := He.glo_ok X G (c.d.fact 11 (f := .glo "_law_source") rfl)
  have g12 : mg "_law_draw" = some (.ref (He.ga K "_law_draw")) := He.glo_ok X G (c.d.fact 12 (f := .glo "_law_draw") rfl)
  have g13 : mg "_law_pick" = some (.ref (He.ga K "_law_pick")) := He.glo_ok X G (c.d.fact 13 (f := .glo "_law_pick") rfl)
  have g14 : mg "_law_shuffled" = some (.ref (He.ga K "_law_shuffled")) := He.glo_ok X G (c.d.fact 14 (f := .glo "_law_shuffled") rfl)
  have g15 : mg "_law_handed" = some (.ref (He.ga K "_law_handed")) := He.glo_ok X G (c.d.fact 15 (f := .glo "_law_handed") rfl)
  have g16 : mg "_law_entry" = some (.ref (He.ga K "_law_entry")) := He.glo_ok X G (c.d.fact 16 (f := .glo "_law_entry") rfl)
  have g17 : mg "_law_charmap_table" = some (.ref (He.ga K "_law_charmap_table")) := He.glo_ok X G (c.d.fact 17 (f := .glo "_law_charmap_table") rfl)
  have g18 : mg "_law_entries" = some (.ref (He.ga K "_law_entries")) := He.glo_ok X G (c.d.fact 18 (f := .glo "_law_entries") rfl)
  have g19 : mg "_law_some" = some (.ref (He.ga K "_law_some")) := He.glo_ok X G (c.d.fact 19 (f := .glo "_law_some") rfl)
  have g20 : mg "law" = some (.ref (He.ga K "law")) := He.glo_ok X G (c.d.fact 20 (f := .glo "law") rfl)
  have ef : He.ga K "law" = f := by
    have e := g20.symm.trans hfa
    injection e with e
    injection e
  have cc : ClC K (He.ga K "Codec") := ⟨He.cls_ok (c.d.fact 41 (f := .cls "Codec") rfl), He.noat_ok (c.d.fact 44 (f := .noat "Codec" "registry") rfl), He.noat_ok (c.d.fact 45 (f := .noat "Codec" "name") rfl), He.noat_ok (c.d.fact 46 (f := .noat "Codec" "kind") rfl), He.noat_ok (c.d.fact 47 (f := .noat "Codec" "table") rfl), He.noat_ok (c.d.fact 48 (f := .noat "Codec" "back") rfl)⟩
  refine ⟨fd20, cs2 K, spLaw K (TT2 K), fun p hp => ?_, fun p hp => ?_, fun p hp => ?_, fun s u => ?_, fun H a ns hl hb hT hS => ?_, fun base KX GB hTB => ?_⟩
  · have e : ∃ q ∈ tf, p = He.cT K q := by
      rcases List.mem_cons.mp hp with e | hp
      · exact ⟨_, List.mem_cons_self, e⟩
      · exact ⟨_, List.mem_cons_of_mem _ List.mem_cons_self, List.mem_singleton.mp hp⟩
    obtain ⟨q, hq, rfl⟩ := e
    exact c.empty q hq
  · have e : ∃ q ∈ tf, p = He.cT K q := by
      rcases List.mem_cons.mp hp with e | hp
      · exact ⟨_, List.mem_cons_self, e⟩
      · exact ⟨_, List.mem_cons_of_mem _ List.mem_cons_self, List.mem_singleton.mp hp⟩
    obtain ⟨q, hq, rfl⟩ := e
    exact c.out q hq
  · have e : ∃ q ∈ tf, p = He.cT K q := by
      rcases List.mem_cons.mp hp with e | hp
      · exact ⟨_, List.mem_cons_self, e⟩
      · exact ⟨_, List.mem_cons_of_mem _ List.mem_cons_self, List.mem_singleton.mp hp⟩
    obtain ⟨q, hq, rfl⟩ := e
    exact PySem.W.codeHd_of_K X (c.hd q hq)
  · exact FunD.bindsA (ps := ["_law_script"]) F20 (fun _ _ _ _ _ _ us hl => match us, hl with | [_], _ => rfl) s [u] rfl
  · refine ⟨a, ns, rfl, hS, fun p hp => ?_, fun _ => rfl⟩
    have tb : ∀ q ∈ cs2 K, ∀ nm : Str, LamX.TabS H q.2 nm := fun q hq nm => ⟨#[], hT q hq, trivial, fun pos cv hc => by cases hc⟩
    rcases List.mem_cons.mp hp with e | hp
    · rw [e]
      exact tb _ List.mem_cons_self _
    · rw [List.mem_singleton.mp hp]
      exact tb _ (List.mem_cons_of_mem _ List.mem_cons_self) _
  · rw [← ef]
    have t1 := hTB (He.cT K ("entries_of", none)) List.mem_cons_self
    have t2 := hTB (He.cT K ("_law_entries", none)) (List.mem_cons_of_mem _ List.mem_cons_self)
    have hu1 : ∀ q ∈ TT2 K, q.1 = (He.cT K ("entries_of", none)).2 → q.2 = qE := fun q hq e => by
      rcases List.mem_cons.mp hq with z | hq
      · rw [z]
      · have z := List.mem_singleton.mp hq
        subst z
        exact absurd e.symm hne
    have hu2 : ∀ q ∈ TT2 K, q.1 = (He.cT K ("_law_entries", none)).2 → q.2 = qL := fun q hq e => by
      rcases List.mem_cons.mp hq with z | hq
      · subst z
        exact absurd e hne
      · rw [List.mem_singleton.mp hq]
    have L1 : LT base mg (TT2 K) fd5 "entries_of" := lt_of F5 t1 List.mem_cons_self hu1
    have L2 : LT base mg (TT2 K) fd18 "_law_entries" := lt_of F18 t2 (List.mem_cons_of_mem _ List.mem_cons_self) hu2
    have CI := ok_is_integer (P := (PySem.Challenge.rw_signferry_k58_whole_charmaps_both_ways).prog) (w := w) (base := base) F0 g0 M
    have CR := ok_is_row (P := (PySem.Challenge.rw_signferry_k58_whole_charmaps_both_ways).prog) (w := w) (base := base) F1 g1 M
    have CA := ok_are_codes F2 g2 M CI CR
    have CC := ok_is_code F3 g3 CI
    have CO := ok_is_octet F4 g4 CI
    have CE := ok_entries_of F5 g5 M L1 CO CC CA
    have CW := ok_way_back F6 g6 M CE CC
    have CT := ok_checked_table F7 g7 M CE CC
    have CB := ok_checked_back F8 g8 M CO CC
    have CWr := ok_write (P := (PySem.Challenge.rw_signferry_k58_whole_charmaps_both_ways).prog) (w := w) (base := base) F9 g9 M
    have CRd := ok_read (P := (PySem.Challenge.rw_signferry_k58_whole_charmaps_both_ways).prog) (w := w) (base := base) F10 g10 M
    have CS := ok_src (P := (PySem.Challenge.rw_signferry_k58_whole_charmaps_both_ways).prog) (w := w) (base := base) F11 g11 M
    have CD := ok_draw (P := (PySem.Challenge.rw_signferry_k58_whole_charmaps_both_ways).prog) (w := w) (base := base) F12 g12 M
    have CP := ok_pick F13 g13 M CD
    have CSh := ok_shuf F14 g14 M CD
    have CH := ok_hand F15 g15 M CD
    have CEn := ok_entry F16 g16 M CP
    have CTa := ok_table F17 g17 M CD CH CSh CEn
    have CLe := ok_lent (P := (PySem.Challenge.rw_signferry_k58_whole_charmaps_both_ways).prog) (w := w) F18 g18 M L2
    have CSo := ok_some F19 g19 M CD CP
    have AN : CalC (PySem.Challenge.rw_signferry_k58_whole_charmaps_both_ways).prog w K mg base "Answers" (He.ga K "Answers") 1 ["self", "registry", "errors"] [] (spAns (He.ga K "Answers")) := ⟨⟨_, fd21, [], ok_ans F21 (He.cls_ok (c.d.fact 34 (f := .cls "Answers") rfl)) (He.noat_ok (c.d.fact 37 (f := .noat "Answers" "registry") rfl)) (He.noat_ok (c.d.fact 38 (f := .noat "Answers" "errors") rfl)) (He.noat_ok (c.d.fact 39 (f := .noat "Answers" "handler") rfl)), He.mkr_ok (c.d.fact 35 (f := .mkr "Answers") rfl), FunD.bindsN F21 (fun _ _ _ _ _ _ us hl => match us, hl with | [_, _, _], _ => rfl), .nil⟩, He.glo_ok X G (c.d.fact 33 (f := .glo "Answers") rfl)⟩
    have RG : CalC (PySem.Challenge.rw_signferry_k58_whole_charmaps_both_ways).prog w K mg base "Registry" (He.ga K "Registry") 1 ["self"] [] (spReg (He.ga K "Registry")) := ⟨⟨_, fd25, [], ok_reg F25 (He.cls_ok (c.d.fact 50 (f := .cls "Registry") rfl)) (He.noat_ok (c.d.fact 53 (f := .noat "Registry" "searchers") rfl)) (He.noat_ok (c.d.fact 54 (f := .noat "Registry" "found_codecs") rfl)) (He.noat_ok (c.d.fact 55 (f := .noat "Registry" "own_handlers") rfl)), He.mkr_ok (c.d.fact 51 (f := .mkr "Registry") rfl), FunD.bindsN F25 (fun _ _ _ _ _ _ us hl => match us, hl with | [_], _ => rfl), .nil⟩, He.glo_ok X G (c.d.fact 49 (f := .glo "Registry") rfl)⟩
    obtain ⟨dsC, vC, bC⟩ := FunD.binds1 (ps := ["self", "registry", "name", "kind", "table", "back"]) F22 6 2 (by intro z; cases z) rfl (fun T kV doc pm an cdv ct us its hl hi => match us, hl, its, hi with | [_, _, _, _, _, _], _, [_, _], _ => ⟨_, rfl, rfl⟩)
    have CK : CalC (PySem.Challenge.rw_signferry_k58_whole_charmaps_both_ways).prog w K mg base "Codec" (He.ga K "Codec") 1 ["self", "registry", "name", "kind", "table", "back"] [] (spCod (He.ga K "Codec")) := ⟨⟨_, fd22, dsC, ok_cod F22 cc, He.mkr_ok (c.d.fact 42 (f := .mkr "Codec") rfl), bC, vC⟩, He.glo_ok X G (c.d.fact 40 (f := .glo "Codec") rfl)⟩
    obtain ⟨dsE, vE, bE⟩ := FunD.binds1 (ps := ["self", "source", "errors"]) F23 2 0 (by intro z; cases z) rfl (fun T kV doc pm an cdv ct us its hl hi => match us, hl, its, hi with | [_, _], _, [_], _ => ⟨_, rfl, rfl⟩)
    have ME : CalE (PySem.Challenge.rw_signferry_k58_whole_charmaps_both_ways).prog w K mg base (He.ga K "Codec") := ⟨⟨_, fd23, dsE, ok_enc F23 M cc AN CWr, He.meth_ok (c.d.fact 56 (f := .meth "Codec" "encoded") rfl), bE, vE⟩, cc.cl⟩
    obtain ⟨dsD, vD, bD⟩ := FunD.binds1 (ps := ["self", "data", "errors", "final"]) F24 2 0 (by intro z; cases z) rfl (fun T kV doc pm an cdv ct us its hl hi => match us, hl, its, hi with | [_, _], _, [_, _], _ => ⟨_, rfl, rfl⟩)
    have MD : CalD (PySem.Challenge.rw_signferry_k58_whole_charmaps_both_ways).prog w K mg base (He.ga K "Codec") := ⟨⟨_, fd24, dsD, ok_dec F24 M cc AN CRd, He.meth_ok (c.d.fact 57 (f := .meth "Codec" "decoded") rfl), bD, vD⟩, cc.cl⟩
    obtain ⟨dsN, vN, bN⟩ := FunD.binds1 (ps := ["self", "name", "table", "back"]) F26 3 0 (by intro z; cases z) rfl (fun T kV doc pm an cdv ct us its hl hi => match us, hl, its, hi with | [_, _, _], _, [_], _ => ⟨_, rfl, rfl⟩)
    obtain ⟨dsA, vA, bA⟩ := FunD.binds1 (ps := ["self", "name", "table", "back"]) F26 4 1 (by intro z; cases z) rfl (fun T kV doc pm an cdv ct us its hl hi => match us, hl, its, hi with | [_, _, _, _], _, [_], _ => ⟨_, rfl, rfl⟩)
    have hch := ok_chm F26 cc CT CB CW CK
    have CMn : CalM (PySem.Challenge.rw_signferry_k58_whole_charmaps_both_ways).prog w K mg base (He.ga K "Registry") "charmap" 5 ["self", "name", "table", "back"] [.non] (spChm (TT2 K) (He.ga K "Codec")) := ⟨⟨_, fd26, dsN, hch, He.meth_ok (c.d.fact 58 (f := .meth "Registry" "charmap") rfl), bN, vN⟩, He.cls_ok (c.d.fact 50 (f := .cls "Registry") rfl)⟩
    have CMa : CalM (PySem.Challenge.rw_signferry_k58_whole_charmaps_both_ways).prog w K mg base (He.ga K "Registry") "charmap" 5 ["self", "name", "table", "back"] [] (spChm (TT2 K) (He.ga K "Codec")) := ⟨⟨_, fd26, dsA, hch, He.meth_ok (c.d.fact 58 (f := .meth "Registry" "charmap") rfl), bA, vA⟩, He.cls_ok (c.d.fact 50 (f := .cls "Registry") rfl)⟩
    exact ok_law F20 M cmp RG CS CTa CLe CW CMn CMa CSo ME MD
end K58


set_option Elab.async false
set_option linter.all false
set_option maxRecDepth 100000
set_option maxHeartbeats 8000000
open PySem PySem.W PySem.Calls PyProof.Rows
theorem PySem.Challenge.cw_signferry_k58_whole_charmaps_both_ways_holds : PySem.Challenge.rw_signferry_k58_whole_charmaps_both_ways.Holds := by
  w_on; o_law
  refine HandSHeadRun.head_any (r := OpenLaw.row PySem.Challenge.rw_signferry_k58_whole_charmaps_both_ways) (q := view (OpenLaw.row PySem.Challenge.rw_signferry_k58_whole_charmaps_both_ways).prog [168]) (H := K58.hk) (ob := K58.ob) (M := 20000) (loose := K58.names) (d := HandSHeadRun.topDef (OpenLaw.row PySem.Challenge.rw_signferry_k58_whole_charmaps_both_ways).prog 168) (kwd := []) K58.ob_eq
    (by kernel_rfl) (fun s => by kernel_rfl) K58.run (by kernel_rfl) (by kernel_rfl) (by kernel_rfl) (by rfl) (by first | assumption | decide +kernel) (by decide +kernel) ⟨rfl, rfl, rfl, rfl, rfl, by decide +kernel⟩ ?hw ?hc
  case hw => w_witness2
  case hc =>
    refine LamX.walk_ofTsE (l := PySem.Challenge.rw_signferry_k58_whole_charmaps_both_ways) (n := 63) (k := 6) (x := "_law_script") (CX := fun _ => L2.CX0) rfl (by decide) (by kernel_rfl) ⟨rfl, by decide, by decide⟩ ?F (fun _ _ _ _ _ z => z)
    intro w mg fa h Y G hmg0
    obtain ⟨K, KX, c⟩ := Y
    have hmg : mg ("law" : PySem.Str) = some (.ref fa) := by
      have e : (HandSHeadRun.topDef (OpenLaw.row PySem.Challenge.rw_signferry_k58_whole_charmaps_both_ways).prog 168).name = ("law" : PySem.Str) := by kernel_rfl
      rw [← e]
      exact hmg0
    exact ⟨K, KX, K58.facts KX G hmg c⟩

