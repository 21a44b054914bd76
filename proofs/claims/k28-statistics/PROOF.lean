import PyProof.Rows.All
import Wide.All
import OpenK.AllK
import Wide.FinOn
import HandS.Set
import HandS.Strs
import HandS.SetFor
import PyProof.Rows.SortShellAny
import KE.DataMinMax
import HandS.List
import HandS.Call
import HandS.ForMost
import HandS.ForExc
import HandS.Wide
import HandS.WideBits
import HandS.Conv
import HandS.TupMul
import HandS.TupAny
import HandS.Flow
import HandS.SortInts
import HandS.Style
import HandS.CallSlots
import HandS.TryOnly
import HandS.TryMany
import HandS.ExcOwn
import HandS.IsInst
import HandS.Rev
import HandS.ExcIs
import PyProof.StrOps2
import HandS.More
import HandS.DictComp
import HandS.Deep
import HandS.RevRange
import PySem.Challenge.RW_closedcuts_k28_statistics_and_parts
set_option Elab.async false
set_option linter.all false
set_option maxRecDepth 100000
set_option maxHeartbeats 4000000
/-! Ev, the sets of texts: set(list or tuple of texts), and sorted of it. -/
namespace EvSet
open PySem PySem.Spec PyProof.Rows L2
/-- the text of an entry -/
def txt (e : Int × Value) : Str := match e.2 with
  | .str k _ => k
  | _ => Str.empty
def IsTxt (w : World) (e : Int × Value) : Prop := ∃ k tk, e.2 = Value.str k tk ∧ e.1 = hashStr w k
/-- at a: a set whose members are the texts M tells; its table can be walked -/
def Txts (w : World) (h : Heap) (a : Addr) (M : Str → Prop) : Prop :=
  ∃ o es ep t, h.get? a = some o ∧ o.ExactSet ∧ o.data = .set es ep t ∧ (∀ e ∈ es.toList, IsTxt w e) ∧ (es.toList.map txt).Nodup ∧ (∀ k, M k ↔ k ∈ es.toList.map txt) ∧
    es.size < scanBound ∧ t.fits es.size = true ∧ Ris t.place.toList ∧ (w.params.followText "set-order" = true ∨ t.led = true)
section
variable {P : Program} {w : World} {h h' : Heap} {a : Addr} {M : Str → Prop}
theorem Txts.at (R : Txts w h a M) (k : ∀ o, h.get? a = some o → h'.get? a = some o) : Txts w h' a M := by
  obtain ⟨o, es, ep, t, ho, r⟩ := R
  exact ⟨o, es, ep, t, k o ho, r⟩
theorem Txts.congr {M' : Str → Prop} (R : Txts w h a M) (e : ∀ k, M' k ↔ M k) : Txts w h a M' := by
  obtain ⟨o, es, ep, t, ho, hx, hd, g, nd, hm, r⟩ := R
  exact ⟨o, es, ep, t, ho, hx, hd, g, nd, fun k => (e k).trans (hm k), r⟩
theorem elems {l : List (Int × Value)} (g : ∀ e ∈ l, IsTxt w e) : ElemsOf (strKind P w) l := fun e he => by
  obtain ⟨k, tk, h1, h2⟩ := g e he
  exact ⟨⟨k, by rw [h1]; exact strKind_is P w k tk, h2⟩, by rw [h1] <;> rfl⟩
theorem is_txt {e : Int × Value} (g : IsTxt w e) (k : Str) : (strKind P w).is k e.2 = true ↔ txt e = k := by
  obtain ⟨k0, tk, h1, _⟩ := g
  unfold txt
  rw [h1]
  show ((k0 == k) = true) ↔ k0 = k
  exact beq_iff_eq
theorem mem_txt {l : List (Int × Value)} (g : ∀ e ∈ l, IsTxt w e) (k : Str) : k ∈ l.map txt ↔ ∃ e ∈ l, (strKind P w).is k e.2 = true := by
  rw [List.mem_map]
  constructor
  · rintro ⟨e, he, q⟩
    exact ⟨e, he, (is_txt (g e he) k).2 q⟩
  · rintro ⟨e, he, q⟩
    exact ⟨e, he, (is_txt (g e he) k).1 q⟩
end
section
variable {P : Program} {w : World} {A : Around} {E : Value → Shared → Prop} {s : Shared} {a : Addr} {M : Str → Prop}
theorem add_tail {g : Bool → Sem Unit} (hg : ∀ (b : Bool) (s₁ : Shared) (Q' : Unit → Shared → Prop), Q' () s₁ → wpAny (model P w) A (g b) Q' E s₁)
    {o : Obj} {es : Array (Int × Value)} {ep : Nat} {t : SetTable} (ho : s.heap.get? a = some o) (hex : o.ExactSet) (hd : o.data = .set es ep t)
    {es1 : Array (Int × Value)} {t2 : SetTable} {M' : Str → Prop} (g1 : ∀ e ∈ es1.toList, IsTxt w e) (nd1 : (es1.toList.map txt).Nodup) (m1 : ∀ k, M' k ↔ k ∈ es1.toList.map txt)
    (hb1 : es1.size < scanBound) (hf2 : t2.fits es1.size = true) (hr : Ris t2.place.toList) (hl : w.params.followText "set-order" = true ∨ t2.led = true) {wasDummy : Bool} {R : Option Bool → Shared → Prop}
    (hR : ∀ h', Heap.SameBut a s.heap h' → Txts w h' a M' → R (some true) { s with heap := h' }) :
    wpAny (model P w) A (do
        storeSet a es1 t2
        if (!wasDummy && t2.tooFull) = true then do
            g (relayAll t2 es1 (SetTable.grown es1.size)).2.2
            storeSet a (relayAll t2 es1 (SetTable.grown es1.size)).1 (relayAll t2 es1 (SetTable.grown es1.size)).2.1
            pure (some true)
          else pure (some true)) R E s := by
  refine wpAny_bind (wpAny_storeSet_of ho hd ?_ (fits_of_scanBound hb1))
  have ho1 := store_at (es' := es1) (t' := t2) ho hd
  have sb1 := Heap.SameBut.update s.heap a (Obj.putSet es1 t2)
  split
  · have pm := relayAll_perm t2 es1 (SetTable.grown es1.size)
    have hf3 := relayAll_fits t2 es1 (SetTable.grown es1.size)
    have hr3 := relayAll_ris t2 es1 (SetTable.grown es1.size)
    have hl3 := relayAll_led t2 es1 (SetTable.grown es1.size)
    generalize relayAll t2 es1 (SetTable.grown es1.size) = Z at pm hf3 hr3 hl3 ⊢
    obtain ⟨es2, t3, gave⟩ := Z
    dsimp only at pm hf3 hr3 hl3 ⊢
    have hsz : es2.size = es1.size := by rw [← Array.length_toList, pm.length_eq, Array.length_toList]
    have hb2 : es2.size < scanBound := by rw [hsz]; exact hb1
    refine wpAny_bind (hg _ _ _ ?_)
    refine wpAny_bind (wpAny_storeSet_of ho1 rfl ?_ (fits_of_scanBound hb2))
    have ho2 := store_at (es' := es2) (t' := t3) ho1 rfl
    refine wpAny_pure (hR _ (sb1.trans (Heap.SameBut.update _ a _)) ?_)
    exact ⟨_, es2, _, t3, ho2, hex, rfl, fun e he => g1 e (pm.mem_iff.mp he), (pm.map txt).nodup_iff.mpr nd1, fun k => (m1 k).trans (pm.map txt).mem_iff.symm, hb2, hf3, hr3,
      hl.imp id fun z => by rw [hl3]; exact z⟩
  · exact wpAny_pure (hR _ sb1 ⟨_, es1, _, t2, ho1, hex, rfl, g1, nd1, m1, hb1, hf2, hr, hl⟩)
theorem add_txt {k : Str} {tk : Tok} {Q : Bool → Shared → Prop} (R : Txts w s.heap a M) (room : ∀ l : List Str, l.Nodup → (∀ x ∈ l, M x) → l.length + 1 < scanBound)
    (hQ : ∀ b h', Heap.SameBut a s.heap h' → Txts w h' a (fun j => M j ∨ j = k) → Q b { s with heap := h' }) :
    wpAny (model P w) A (setAddHashed a (.str k tk) ((strKind P w).hash k)) Q E s := by
  obtain ⟨o, es, ep, t, ho, hex, hd, g, nd, hm, hb, hf, hr, hl⟩ := R
  have hroom : es.size + 1 < scanBound := by
    have := room (es.toList.map txt) nd fun x hx => (hm x).2 hx
    rwa [List.length_map, Array.length_toList] at this
  have hkey : (strKind P w).is k (.str k tk) = true := strKind_is P w k tk
  have hsc : (Value.str k tk).scannable = true := rfl
  have hel : ElemsOf (strKind P w) es.toList := elems g
  unfold setAddHashed setAddHashedIn
  refine wpAny_holding (wpAny_bind (wpAny_setState_of ho hd hf ?_))
  dsimp only
  rw [byScan_of hsc hb hel]
  simp only [↓reduceIte]
  unfold setAddByScan
  refine wpAny_bind ?_
  refine wpAny_bind (wpAny_rule ?_)
  refine wpAny_bind (wpAny_setScan_of hkey ho hd hf hel ?_)
  cases hfi : List.findIdx? (fun e => (strKind P w).is k e.2) es.toList with
  | some j =>
    dsimp only
    obtain ⟨hj, pj, _⟩ := List.findIdx?_eq_some_iff_getElem.mp hfi
    have hMk : M k := (hm k).2 ((mem_txt (P := P) (w := w) g k).2 ⟨es.toList[j], List.getElem_mem hj, pj⟩)
    refine wpAny_pure (wpAny_pure ?_)
    exact hQ _ s.heap (Heap.SameBut.refl a s.heap) ⟨o, es, ep, t, ho, hex, hd, g, nd, fun i => by
      rw [← hm i]
      exact ⟨fun z => z.elim id (fun e => e ▸ hMk), .inl⟩, hb, hf, hr, hl⟩
  | none =>
    dsimp only
    have hnk : k ∉ es.toList.map txt := fun z => by
      obtain ⟨e, he, q⟩ := (mem_txt (P := P) (w := w) g k).1 z
      have c := List.findIdx?_eq_none_iff.mp hfi e he
      rw [q] at c
      cases c
    have hgw : ∀ (b : Bool) {s₁ : Shared} {Q' : Unit → Shared → Prop}, Q' () s₁ → wpAny (model P w) A (match b with | true => rule "set.scan.the-table-gave-way" | false => pure ()) Q' E s₁ :=
      fun b s₁ Q' q => by cases b <;> first | exact wpAny_pure q | exact wpAny_rule q
    have pm := layNew_perm t es ((strKind P w).hash k) (.str k tk)
    have hf1 := layNew_fits t es ((strKind P w).hash k) (.str k tk)
    have hr1 := layNew_ris t es ((strKind P w).hash k) (.str k tk) hr
    have hl1 := layNew_led t es ((strKind P w).hash k) (.str k tk)
    generalize layNew t es ((strKind P w).hash k) (.str k tk) = Z at pm hf1 hr1 hl1 ⊢
    obtain ⟨es1, t1, wasDummy, gave⟩ := Z
    dsimp only at pm hf1 hr1 hl1 ⊢
    rw [Array.toList_push] at pm
    have pc : es1.toList.Perm (((strKind P w).hash k, Value.str k tk) :: es.toList) := pm.trans (List.perm_append_singleton _ _)
    have pk : (es1.toList.map txt).Perm (k :: es.toList.map txt) := pc.map txt
    have g1 : ∀ e ∈ es1.toList, IsTxt w e := fun e he => by
      rcases List.mem_cons.mp (pc.mem_iff.mp he) with z | z
      · rw [z]; exact ⟨k, tk, rfl, rfl⟩
      · exact g e z
    have nd1 : (es1.toList.map txt).Nodup := pk.nodup_iff.mpr (List.nodup_cons.mpr ⟨hnk, nd⟩)
    have m1 : ∀ i, (M i ∨ i = k) ↔ i ∈ es1.toList.map txt := fun i => by
      rw [hm i, pk.mem_iff, List.mem_cons]
      exact Or.comm
    have hsz : es1.size = es.size + 1 := by rw [← Array.length_toList, pc.length_eq, List.length_cons, Array.length_toList]
    have hb1 : es1.size < scanBound := by rw [hsz]; exact hroom
    have hled : w.params.followText "set-order" = true ∨ t1.led = true := hl.imp id fun z => by rw [hl1]; exact z
    refine wpAny_bind (hgw _ ?_)
    split
    · refine wpAny_bind ?_
      rw [hashByValue_scannable 8 hsc]
      refine wpAny_pure ?_
      refine add_tail ?_ ho hex hd g1 nd1 m1 hb1 ?_ ?_ ?_ ?_
      · intro b s₁ Q' q; cases b <;> first | exact wpAny_pure q | exact wpAny_rule q
      · first | (split <;> first | exact hf1 | exact SetTable.fits_plain_off hf1) | exact hf1
      · first | (split <;> exact hr1) | exact hr1
      · first | (split <;> exact hled) | exact hled
      · intro h' sb r; dsimp only; exact wpAny_pure (hQ _ h' sb r)
    · refine wpAny_bind (wpAny_pure ?_)
      simp only [↓reduceIte]
      refine add_tail ?_ ho hex hd g1 nd1 m1 hb1 hf1 hr1 hled ?_
      · intro b s₁ Q' q; cases b <;> first | exact wpAny_pure q | exact wpAny_rule q
      · intro h' sb r; dsimp only; exact wpAny_pure (hQ _ h' sb r)
theorem update_txts {I : Addr} {fp wr : List Addr} {G : Array GenState → Array GenState → Prop} {n : Nat} {Pv : Nat → Value → Prop} {St : Nat → Shared → Prop} {R : Result → Shared → Prop}
    (W : WalksS P w A.in1 I fp wr G n Pv St) (S : Addr) (hSf : S ∉ fp) (xs : List Str) (hn : n = xs.length) (room : ∀ l : List Str, l.Nodup → (∀ x ∈ l, x ∈ xs) → l.length + 1 < scanBound) (hval : ∀ i v, Pv i v → ∃ k t, xs[i]? = some k ∧ v = .str k t) :
    ∀ (k i : Nat) (s : Shared), n - i = k → i ≤ n → St i s → Txts w s.heap S (fun j => j ∈ xs.take i) →
      (∀ s', Moved (S :: wr) G s s' → Txts w s'.heap S (fun j => j ∈ xs) → R (.ok (.ret .none)) s') →
      codeAny (model P w) A (.builtin "set.update.loop" ⟨[.ref S, .ref I], []⟩) R s := by
  have hSw : S ∉ wr := fun h => hSf (W.sub _ h)
  have hsub : ∀ b ∈ wr, b ∈ S :: wr := fun b hb => List.mem_cons_of_mem _ hb
  intro k
  induction k with
  | zero =>
    intro i s hk' hi hst hS hR
    have hin : i = n := by omega
    subst hin
    refine codeAny_builtin PyProof.Rows.F.entry_set_update_loop ?_
    rw [Around.under_plainId PyProof.Rows.F.plain_set_update_loop _]
    show wpAny _ A.in1 (pyNext (.ref I) >>= _) _ _ s
    refine wpAny_bind (W.done s _ _ hst fun s' hm => ?_)
    show wpAny _ A.in1 (ret Value.none) _ _ s'
    have e : xs.take i = xs := List.take_of_length_le (by omega)
    rw [e] at hS
    exact wpAny_pure (hR s' (hm.mono hsub) (hS.at fun o e => hm.heap S o hSw e))
  | succ k ih =>
    intro i s hk' hi hst hS hR
    have hlt : i < n := by omega
    refine codeAny_builtin PyProof.Rows.F.entry_set_update_loop ?_
    rw [Around.under_plainId PyProof.Rows.F.plain_set_update_loop _]
    show wpAny _ A.in1 (pyNext (.ref I) >>= _) _ _ s
    refine wpAny_bind (W.item i s _ _ hlt hst fun v s' hP hst' hm => ?_)
    obtain ⟨z, t, hz, rfl⟩ := hval i v hP
    have hS' : Txts w s'.heap S (fun j => j ∈ xs.take i) := hS.at fun o e => hm.heap S o hSw e
    show wpAny _ A.in1 (holding [Value.str z t] (setAdd S (.str z t)) >>= _) _ _ s'
    refine wpAny_bind (wpAny_holding ?_)
    unfold setAdd
    refine wpAny_holding ?_
    refine wpAny_bind ((strKind P w).pyHash (k := z) (strKind_is _ _ _ _) ?_)
    refine add_txt (s := { s' with toks := s'.toks + 1 }) hS' (fun l h1 h2 => room l h1 fun x hx => List.mem_of_mem_take (h2 x hx)) fun b h' hsb hS2 => ?_
    have hS3 : Txts w h' S (fun j => j ∈ xs.take (i + 1)) := hS2.congr fun j => by
      rw [List.take_add_one, hz]
      simp [List.mem_append]
    refine wpAny_pure ⟨plainId_quiet PyProof.Rows.F.plain_set_update_loop _, ih (i + 1) _ (by omega) hlt (W.frame _ s' _ _ hst' (Nat.le_succ _) fun b hb o e => ?_) hS3 fun s'' hm'' hS'' => ?_⟩
    · rw [hsb.2 b (fun h : b = S => hSf (by rw [← h]; exact hb))]; exact e
    · refine hR s'' (Moved.trans W.gtrans ((hm.mono hsub).then_heap (Nat.le_succ _) fun b o hb e => ?_) hm'') hS''
      rw [hsb.2 b (fun h : b = S => hb (by rw [h]; exact List.mem_cons_self))]; exact e
theorem txts_new {w : World} {h : Heap} {a : Addr} {xs : List Str} (ho : h.get? a = some { cls := .type "set", dict := none, data := .set #[] 0 (.fresh 0 0 (!w.params.followText "set-order")) }) : Txts w h a (fun j => j ∈ xs.take 0) :=
  ⟨_, #[], 0, _, ho, ⟨rfl, rfl, rfl⟩, rfl, (fun e he => by simp at he), (by simp), (fun k => by simp), (by decide), (by rfl), List.Pairwise.nil, by
    show _ ∨ (!w.params.followText "set-order") = true
    cases w.params.followText "set-order"
    · exact .inr rfl
    · exact .inl rfl⟩

set_option maxHeartbeats 3200000 in
theorem set_of_list {l : Addr} {items : Array Value} (xs : List Str) {Q : Value → Shared → Prop} (hh : A.handled = none) (hl : s.heap.IsList l items) (hit : StrsAre items.toList xs) (room : ∀ l : List Str, l.Nodup → (∀ x ∈ l, x ∈ xs) → l.length + 1 < scanBound)
    (h : ∀ (h' : Heap) (tk : Nat), Txts w h' s.heap.objs.size (fun j => j ∈ xs) → (∀ b o, s.heap.get? b = some o → h'.get? b = some o) → Q (.ref s.heap.objs.size) { s with heap := h', toks := tk }) :
    wpAny (model P w) A (call (.type "set") [.ref l]) Q E s := by
  have hisz : items.size = xs.length := by rw [← StrsAre.len_eq hit, Array.length_toList]
  obtain ⟨c, tl, hmro⟩ := PySem.F.called_set.mro
  have hmade := PySem.F.called_set.made
  have hsub := PySem.F.called_set.sub
  refine wpAny_call (codeAny_of_tree ?_)
  show wpAny _ _ (callAny (.type "set") _) _ _ _
  refine wpAny_pure ⟨Code.quiet_builtin _ (by decide +kernel), codeAny_builtin PySem.F.entry_type_call ?_⟩
  rw [Around.under_plain (weight_type_call_type "set" [.ref l] []) rfl]
  have h1 := PySem.F.called_set.notType
  have h2 := PySem.F.called_set.canCreate
  have hct := PySem.F.typeCall_set_1 (.ref l)
  repeat (any_goals (first | assumption | wp_step))
  refine codeAny_mono (code_set_led1 (.ref l) (E := E) (Q₁ := fun obj s₁ => obj = .ref s.heap.objs.size ∧ s₁ = { s with heap := s.heap.push { cls := .type "set", dict := none, data := .set #[] 0 (.fresh 0 0 (!w.params.followText "set-order")) } }) ⟨rfl, rfl⟩) fun r s₁ hr => ?_
  cases r with
  | error e => exact hr
  | ok fl =>
    cases fl with
    | ret obj =>
      obtain ⟨rfl, rfl⟩ := hr
      have hS : (s.heap.push { cls := .type "set", dict := none, data := .set #[] 0 (.fresh 0 0 (!w.params.followText "set-order")) }).get? s.heap.objs.size = some { cls := .type "set", dict := none, data := .set #[] 0 (.fresh 0 0 (!w.params.followText "set-order")) } := Heap.get?_push_size _ rfl
      have hT : Shared.TypeIs { s with heap := s.heap.push { cls := .type "set", dict := none, data := .set #[] 0 (.fresh 0 0 (!w.params.followText "set-order")) } } (.ref s.heap.objs.size) "set" := ⟨_, hS, rfl⟩
      have hli := PySem.F.called_set.init.lookup
      have hbi := PySem.F.called_set.init.bind (.ref s.heap.objs.size)
      repeat (any_goals (first | assumption | wp_step))
      refine codeAny_mono (codeAny_call_builtin (R := wants (fun r s₂ => r = .none ∧ ∃ h' tk, s₂ = { s with heap := h', toks := tk } ∧ Txts w h' s.heap.objs.size (fun j => j ∈ xs) ∧
          (∀ b o, s.heap.get? b = some o → h'.get? b = some o)) E) PySem.F.called_set.init.plain PySem.F.entry_set_init (check_set_init_1 hT ?_)) fun r₂ s₂ hr₂ => ?_
      · obtain ⟨ol, hol, hcl, nl, hdl⟩ := hl
        obtain ⟨ocls, odict, odata, oslots⟩ := ol
        simp only at hcl hdl
        subst hcl; subst hdl
        have hol' : (s.heap.push { cls := .type "set", dict := none, data := .set #[] 0 (.fresh 0 0 (!w.params.followText "set-order")) }).get? l = some { cls := .type "list", dict := odict, data := .seq items nl, slots := oslots } := Heap.get?_push_of_some _ hol
        have hsls := PySem.F.sub_list_set
        have hslf := PySem.F.sub_list_frozenset
        have hne : (Value.type "list" == Value.type "dict") = false := by decide
        have hl1 : (s.heap.push { cls := .type "set", dict := none, data := .set #[] 0 (.fresh 0 0 (!w.params.followText "set-order")) }).IsList l items := ⟨_, hol', rfl, nl, rfl⟩
        unfold Builtin.«set.__init__» noKeywords Builtin.Frozenset.updateFrom
        generalize hPI : pyIter = PI
        wp_walk
        subst hPI
        refine wpAny_pyIter_list hl1 ?_
        refine wpAny_bind (wpAny_runValue ?_)
        have hlS : l < s.heap.objs.size := Heap.lt_size hol
        have hh3 : A.in1.in1.in1.handled = none := by simp [hh]
        have hneI : l ≠ (s.heap.push { cls := .type "set", dict := none, data := .set #[] 0 (.fresh 0 0 (!w.params.followText "set-order")) }).objs.size := by
          rw [Heap.size_push]; exact Nat.ne_of_lt (Nat.lt_succ_of_lt hlS)
        have hSf : s.heap.objs.size ∉ [(s.heap.push { cls := .type "set", dict := none, data := .set #[] 0 (.fresh 0 0 (!w.params.followText "set-order")) }).objs.size, l] := by
          rw [Heap.size_push]; simp only [List.mem_cons, List.mem_singleton, List.not_mem_nil, or_false, not_or]
          exact ⟨Nat.ne_of_lt (Nat.lt_succ_self _), Nat.ne_of_gt hlS⟩
        have hval : ∀ (i : Nat) (v : Value), items[i]? = some v → ∃ k t, xs[i]? = some k ∧ v = .str k t := fun i v hv => by
          have hi : i < xs.length := by rw [← hisz]; exact (Array.getElem?_eq_some_iff.mp hv).1
          obtain ⟨t, e⟩ := SS.strs_at hit i v (by rw [Array.getElem?_toList]; exact hv)
          refine ⟨xs[i], t, List.getElem?_eq_getElem hi, ?_⟩
          rw [e, List.getD_eq_getElem?_getD, List.getElem?_eq_getElem hi] <;> rfl
        refine update_txts ((Walks.list hh3 _ l hneI items).toS) s.heap.objs.size
          hSf xs hisz room hval (items.size - 0) 0 _ (by omega) (Nat.zero_le _)
          ⟨⟨_, Heap.get?_push_size _ rfl, rfl, rfl⟩, (hl1.push _)⟩ ?hS0 ?hR
        case hS0 =>
          have hget : ((s.heap.push { cls := .type "set", dict := none, data := .set #[] 0 (.fresh 0 0 (!w.params.followText "set-order")) }).push { cls := .type "list_iterator", data := .fields #[.ref l, .int 0 0] }).get? s.heap.objs.size
              = some { cls := .type "set", dict := none, data := .set #[] 0 (.fresh 0 0 (!w.params.followText "set-order")) } := Heap.get?_push_of_some _ hS
          exact txts_new hget
        case hR =>
          intro s' hm hS'
          obtain ⟨h', g2, d', tk', os'⟩ := s'
          have eg : g2 = s.gens := hm.gens
          have ed : d' = s.drawn := hm.drawn
          have eo : os' = s.os := hm.os
          subst eg; subst ed; subst eo
          show wpAny _ _ _ _ _ _
          refine wpAny_pure ?_
          show wpAny _ _ (ret Value.none) _ _ _
          refine wpAny_pure ⟨rfl, h', tk', rfl, hS', fun b o e => ?_⟩
          have hb0 : b < s.heap.objs.size := Heap.lt_size e
          have hb1 : b ≠ s.heap.objs.size := Nat.ne_of_lt hb0
          have hb2 : b ≠ (s.heap.push { cls := .type "set", dict := none, data := .set #[] 0 (.fresh 0 0 (!w.params.followText "set-order")) }).objs.size := by
            rw [Heap.size_push]; exact Nat.ne_of_lt (Nat.lt_succ_of_lt hb0)
          exact hm.heap b o (by simp only [List.mem_cons, List.mem_singleton, List.not_mem_nil, or_false, not_or]; exact ⟨hb1, hb2⟩) (Heap.get?_push_of_some _ (Heap.get?_push_of_some _ e))
      · cases r₂ with
        | error e => exact hr₂
        | ok fl₂ =>
          cases fl₂ with
          | ret r =>
            obtain ⟨rfl, h', tk, rfl, hS', hk'⟩ := hr₂
            repeat (any_goals (first | assumption | wp_step))
            exact h _ _ hS' hk'
          | _ => exact hr₂.elim
    | _ => exact hr.elim

set_option maxHeartbeats 3200000 in
theorem set_of_tuple {l : Addr} {items : Array Value} (xs : List Str) {Q : Value → Shared → Prop} (hh : A.handled = none) (hl : s.heap.IsTuple l items) (hit : StrsAre items.toList xs) (room : ∀ l : List Str, l.Nodup → (∀ x ∈ l, x ∈ xs) → l.length + 1 < scanBound)
    (h : ∀ (h' : Heap) (tk : Nat), Txts w h' s.heap.objs.size (fun j => j ∈ xs) → (∀ b o, s.heap.get? b = some o → h'.get? b = some o) → Q (.ref s.heap.objs.size) { s with heap := h', toks := tk }) :
    wpAny (model P w) A (call (.type "set") [.ref l]) Q E s := by
  have hisz : items.size = xs.length := by rw [← StrsAre.len_eq hit, Array.length_toList]
  obtain ⟨c, tl, hmro⟩ := PySem.F.called_set.mro
  have hmade := PySem.F.called_set.made
  have hsub := PySem.F.called_set.sub
  refine wpAny_call (codeAny_of_tree ?_)
  show wpAny _ _ (callAny (.type "set") _) _ _ _
  refine wpAny_pure ⟨Code.quiet_builtin _ (by decide +kernel), codeAny_builtin PySem.F.entry_type_call ?_⟩
  rw [Around.under_plain (weight_type_call_type "set" [.ref l] []) rfl]
  have h1 := PySem.F.called_set.notType
  have h2 := PySem.F.called_set.canCreate
  have hct := PySem.F.typeCall_set_1 (.ref l)
  repeat (any_goals (first | assumption | wp_step))
  refine codeAny_mono (code_set_led1 (.ref l) (E := E) (Q₁ := fun obj s₁ => obj = .ref s.heap.objs.size ∧ s₁ = { s with heap := s.heap.push { cls := .type "set", dict := none, data := .set #[] 0 (.fresh 0 0 (!w.params.followText "set-order")) } }) ⟨rfl, rfl⟩) fun r s₁ hr => ?_
  cases r with
  | error e => exact hr
  | ok fl =>
    cases fl with
    | ret obj =>
      obtain ⟨rfl, rfl⟩ := hr
      have hS : (s.heap.push { cls := .type "set", dict := none, data := .set #[] 0 (.fresh 0 0 (!w.params.followText "set-order")) }).get? s.heap.objs.size = some { cls := .type "set", dict := none, data := .set #[] 0 (.fresh 0 0 (!w.params.followText "set-order")) } := Heap.get?_push_size _ rfl
      have hT : Shared.TypeIs { s with heap := s.heap.push { cls := .type "set", dict := none, data := .set #[] 0 (.fresh 0 0 (!w.params.followText "set-order")) } } (.ref s.heap.objs.size) "set" := ⟨_, hS, rfl⟩
      have hli := PySem.F.called_set.init.lookup
      have hbi := PySem.F.called_set.init.bind (.ref s.heap.objs.size)
      repeat (any_goals (first | assumption | wp_step))
      refine codeAny_mono (codeAny_call_builtin (R := wants (fun r s₂ => r = .none ∧ ∃ h' tk, s₂ = { s with heap := h', toks := tk } ∧ Txts w h' s.heap.objs.size (fun j => j ∈ xs) ∧
          (∀ b o, s.heap.get? b = some o → h'.get? b = some o)) E) PySem.F.called_set.init.plain PySem.F.entry_set_init (check_set_init_1 hT ?_)) fun r₂ s₂ hr₂ => ?_
      · obtain ⟨ol, hol, hcl, nl, hdl⟩ := hl
        obtain ⟨ocls, odict, odata, oslots⟩ := ol
        simp only at hcl hdl
        subst hcl; subst hdl
        have hol' : (s.heap.push { cls := .type "set", dict := none, data := .set #[] 0 (.fresh 0 0 (!w.params.followText "set-order")) }).get? l = some { cls := .type "tuple", dict := odict, data := .seq items nl, slots := oslots } := Heap.get?_push_of_some _ hol
        have hsls := PySem.F.sub_tuple_set
        have hslf := PySem.F.sub_tuple_frozenset
        have hne : (Value.type "tuple" == Value.type "dict") = false := by decide
        have hl1 : (s.heap.push { cls := .type "set", dict := none, data := .set #[] 0 (.fresh 0 0 (!w.params.followText "set-order")) }).IsTuple l items := ⟨_, hol', rfl, nl, rfl⟩
        unfold Builtin.«set.__init__» noKeywords Builtin.Frozenset.updateFrom
        generalize hPI : pyIter = PI
        wp_walk
        subst hPI
        refine wpAny_pyIter_tuple hl1 ?_
        refine wpAny_bind (wpAny_runValue ?_)
        have hlS : l < s.heap.objs.size := Heap.lt_size hol
        have hh3 : A.in1.in1.in1.handled = none := by simp [hh]
        have hneI : l ≠ (s.heap.push { cls := .type "set", dict := none, data := .set #[] 0 (.fresh 0 0 (!w.params.followText "set-order")) }).objs.size := by
          rw [Heap.size_push]; exact Nat.ne_of_lt (Nat.lt_succ_of_lt hlS)
        have hSf : s.heap.objs.size ∉ [(s.heap.push { cls := .type "set", dict := none, data := .set #[] 0 (.fresh 0 0 (!w.params.followText "set-order")) }).objs.size, l] := by
          rw [Heap.size_push]; simp only [List.mem_cons, List.mem_singleton, List.not_mem_nil, or_false, not_or]
          exact ⟨Nat.ne_of_lt (Nat.lt_succ_self _), Nat.ne_of_gt hlS⟩
        have hval : ∀ (i : Nat) (v : Value), items[i]? = some v → ∃ k t, xs[i]? = some k ∧ v = .str k t := fun i v hv => by
          have hi : i < xs.length := by rw [← hisz]; exact (Array.getElem?_eq_some_iff.mp hv).1
          obtain ⟨t, e⟩ := SS.strs_at hit i v (by rw [Array.getElem?_toList]; exact hv)
          refine ⟨xs[i], t, List.getElem?_eq_getElem hi, ?_⟩
          rw [e, List.getD_eq_getElem?_getD, List.getElem?_eq_getElem hi] <;> rfl
        refine update_txts ((Walks.tuple hh3 _ l hneI items).toS) s.heap.objs.size
          hSf xs hisz room hval (items.size - 0) 0 _ (by omega) (Nat.zero_le _)
          ⟨⟨_, Heap.get?_push_size _ rfl, rfl, rfl⟩, (hl1.push _)⟩ ?hS0 ?hR
        case hS0 =>
          have hget : ((s.heap.push { cls := .type "set", dict := none, data := .set #[] 0 (.fresh 0 0 (!w.params.followText "set-order")) }).push { cls := .type "tuple_iterator", data := .fields #[.ref l, .int 0 0] }).get? s.heap.objs.size
              = some { cls := .type "set", dict := none, data := .set #[] 0 (.fresh 0 0 (!w.params.followText "set-order")) } := Heap.get?_push_of_some _ hS
          exact txts_new hget
        case hR =>
          intro s' hm hS'
          obtain ⟨h', g2, d', tk', os'⟩ := s'
          have eg : g2 = s.gens := hm.gens
          have ed : d' = s.drawn := hm.drawn
          have eo : os' = s.os := hm.os
          subst eg; subst ed; subst eo
          show wpAny _ _ _ _ _ _
          refine wpAny_pure ?_
          show wpAny _ _ (ret Value.none) _ _ _
          refine wpAny_pure ⟨rfl, h', tk', rfl, hS', fun b o e => ?_⟩
          have hb0 : b < s.heap.objs.size := Heap.lt_size e
          have hb1 : b ≠ s.heap.objs.size := Nat.ne_of_lt hb0
          have hb2 : b ≠ (s.heap.push { cls := .type "set", dict := none, data := .set #[] 0 (.fresh 0 0 (!w.params.followText "set-order")) }).objs.size := by
            rw [Heap.size_push]; exact Nat.ne_of_lt (Nat.lt_succ_of_lt hb0)
          exact hm.heap b o (by simp only [List.mem_cons, List.mem_singleton, List.not_mem_nil, or_false, not_or]; exact ⟨hb1, hb2⟩) (Heap.get?_push_of_some _ (Heap.get?_push_of_some _ e))
      · cases r₂ with
        | error e => exact hr₂
        | ok fl₂ =>
          cases fl₂ with
          | ret r =>
            obtain ⟨rfl, h', tk, rfl, hS', hk'⟩ := hr₂
            repeat (any_goals (first | assumption | wp_step))
            exact h _ _ hS' hk'
          | _ => exact hr₂.elim
    | _ => exact hr.elim

theorem strs_of : ∀ (l : List Value), (∀ v ∈ l, ∃ k tk, v = Value.str k tk) → ∃ ks, StrsAre l ks
  | [], _ => ⟨[], .nil⟩
  | v :: r, h => by
    obtain ⟨k, tk, rfl⟩ := h v (by simp)
    obtain ⟨ks, hr⟩ := strs_of r fun x hx => h x (by simp [hx])
    exact ⟨k :: ks, .cons k tk hr⟩
theorem strs_txt : ∀ {l : List (Int × Value)} {vs : List Value} {ks : List Str}, (∀ e ∈ l, IsTxt w e) → vs = l.map (·.2) → StrsAre vs ks → ks = l.map txt
  | [], _, _, _, e, h => by
    subst e
    cases h
    rfl
  | x :: l, _, _, g, e, h => by
    subst e
    obtain ⟨k, tk, h1, _⟩ := g x (by simp)
    rw [List.map_cons, h1] at h
    cases h with
    | cons _ _ hr =>
      rw [List.map_cons, strs_txt (fun e he => g e (by simp [he])) rfl hr]
      congr 1
      unfold txt
      rw [h1]
theorem strsAre_inj : ∀ {vs : List Value} {a b : List Str}, StrsAre vs a → StrsAre vs b → a = b
  | _, _, _, .nil, .nil => rfl
  | _, _, _, .cons k tk h, .cons _ _ h' => by rw [strsAre_inj h h']
/-- sorted of a set of texts -/
theorem sorted_txts {Q : Value → Shared → Prop} (R : Txts w s.heap a M) (hh : A.handled = none)
    (hQ : ∀ s' p (out : Array Value) (c : Nat) (ks : List Str), (∀ b o, s.heap.get? b = some o → s'.heap.get? b = some o) → s'.gens = s.gens → s'.os = s.os → s.heap.objs.size ≤ p →
      s'.heap.get? p = some (seqObj "list" out c) → StrsAre out.toList ks → sortedS ks = true → ks.Nodup → (∀ k, k ∈ ks ↔ M k) → Q (.ref p) s') :
    wpAny (model P w) A (call (.builtin "sorted") [.ref a]) Q E s := by
  obtain ⟨o, es, ep, t, ho, hex, hd, g, nd, hm, hb, hf, hr, hl⟩ := R
  refine Calls.call_function_entry kind_sorted plain_sorted entry_sorted (args_sorted1 _) ?_
  unfold Builtin.«sorted»
  refine wpAny_bind (m := checkCount "sorted" 1 1 _) (wpAny_pure ?_)
  refine wpAny_bind (collect_set (A := A.in1) hh ⟨o, ho, hex.1, hd⟩ hf hb hr hl fun s1 vs k1 hz g1 o1 pm => ?_)
  have hvl : vs.length = es.size := by rw [pm.length_eq, List.length_map, Array.length_toList]
  have hve : ∀ v ∈ vs, ∃ k tk, v = Value.str k tk := fun v hv => by
    obtain ⟨e, he, q⟩ := List.mem_map.mp (pm.mem_iff.mp hv)
    obtain ⟨k, tk, h1, _⟩ := g e he
    exact ⟨k, tk, by rw [← q]; exact h1⟩
  obtain ⟨us, hI⟩ := strs_of vs hve
  have hus : us.Perm (es.toList.map txt) := by
    let F : Value → Str := fun v => match v with
      | .str k _ => k
      | _ => Str.empty
    have h1 : ∀ {vs : List Value} {us : List Str}, StrsAre vs us → us = vs.map F := by
      intro vs us h
      induction h with
      | nil => rfl
      | cons k tk _ ih => rw [List.map_cons, ← ih]
    rw [h1 hI]
    have q := pm.map F
    rw [List.map_map] at q
    exact q
  have hL : vs.length ≤ sizeLine := by rw [hvl, sizeLine_eq]; unfold scanBound at hb; omega
  refine wpAny_bind (wpAny_newList ?_ hL)
  have hoL : (s1.heap.push (seqObj "list" vs.toArray 0)).get? s1.heap.objs.size = some (seqObj "list" vs.toArray 0) := Heap.get?_push_size _ rfl
  refine wpAny_bind (wpAny_holding (wpAny_call_entry slot_list_sort ⟨_, hoL, rfl⟩ entry_list_sort (list_sort_treeKAny strKind_oneLt hoL hI.keysOf (fun v₁ v₂ rest e => keyKind_strs (by rw [← e]; exact hI)) hL fun st' a1 a2 => ⟨_, rfl, ?_⟩) (args_list_sort _)))
  obtain ⟨ks, b1, b2, b3⟩ := sorted_out_str hI a1 a2
  obtain ⟨c, hc⟩ := sortedHeap_at (vs := vs) (out := (arrOf st').map (·.2)) hoL
  have pn : ks.Perm (es.toList.map txt) := b2.trans hus
  refine wpAny_pure ⟨_, rfl, hQ _ s1.heap.objs.size _ c ks (fun b u e => ?_) g1 o1 hz hc b1 b3 (pn.nodup_iff.mpr nd) (fun k => by rw [pn.mem_iff, ← hm k])⟩
  have q := k1 b u e
  have hlt := Heap.lt_size q
  show (sortedHeap (s1.heap.push (seqObj "list" vs.toArray 0)) s1.heap.objs.size vs _).get? b = some u
  rw [sortedHeap_old (Nat.ne_of_lt hlt) (by rw [size_push']; exact Nat.lt_succ_of_lt hlt)]
  exact Heap.get?_push_of_some _ q
end
end EvSet

set_option Elab.async false
set_option linter.all false
set_option maxRecDepth 100000
set_option maxHeartbeats 4000000
/-! Ev, rules of sorted, min, max, sum: texts, tuples of numbers, sets of texts. -/
namespace EvSet
open PySem PySem.Spec PyProof.Rows L2
def rSortTx (K : PySem.W.Frag) : List V → Hp → VK → Prop := fun vs H Q => ∃ (a : Addr) (xs : List Str), vs = [V.ref a] ∧ SqL K H a (xs.map V.str) ∧
  ∀ (ys : List Str) (p : Addr), ys.Perm xs → sortedS ys = true → H p = none → Q (.ref p) (upd H p (.lst (ys.map V.str)))
section
variable {X : Cx}
theorem cr_sortTx : CallR X (.builtin "sorted") (rSortTx X.K) := by
  intro pins s σ H vs us Q I r h
  obtain ⟨a, xs, rfl, hs, q⟩ := h
  obtain ⟨its, rv, hl, hz⟩ := I.list hs
  rw [Vals.ref1 r]
  have hlen0 := rv.length
  rw [List.length_map] at hlen0
  have hL : its.length ≤ sizeLine := by
    have := hz
    first | exact this | (rw [← hlen0]; simpa using this) | simpa [hlen0] using this
  refine PyProof.Rows.sorted_strsAny hl.isList rv.strs hL fun out ys h1 h2 h3 => ?_
  obtain ⟨ep, he'⟩ := PyProof.Rows.sortedAll_at s.heap its out
  have hlen : (ys.map V.str).length ≤ sizeLine := by rw [List.length_map, h2.length_eq, hlen0]; exact hL
  exact ⟨.ref _, upd H (s.heap.objs.size + 1) (.lst (ys.map V.str)), I.laid (t' := s.toks) (fun _ _ => PyProof.Rows.sortedAll_old) (Nat.le_succ _) ⟨hlen, out.toList, ep, vals_of_strs h1, he'⟩, rfl, q ys _ h2 h3 (I.hok.fresh (Nat.le_succ _))⟩
def tSSet (K : PySem.W.Frag) (ta : TE) : TE := fun σ H Q => ta σ H fun x H1 => ∃ l, ∃ xs : List Str, x = .ref l ∧ (SqL K H1 l (xs.map V.str) ∨ SqT K H1 l (xs.map V.str)) ∧
  (∀ l : List Str, l.Nodup → (∀ x ∈ l, x ∈ xs) → l.length + 1 < scanBound) ∧ ∀ (ys : List Str) (p : Addr), sortedS ys = true → ys.Nodup → (∀ k, k ∈ ys ↔ k ∈ xs) → H1 p = none → Q (.ref p) (upd H1 p (.lst (ys.map V.str)))
theorem boot_sorted : bootBuiltins "sorted" = some (.builtin "sorted") := by decide +kernel
theorem pe_sset {a : Expr} {ta : TE} {p p2 q pos : Pos} (hc : X.calm = true) (hg : Gl X "sorted") (hm : X.mg "sorted" = none) (hg2 : Gl X "set") (hm2 : X.mg "set" = none) (ha : PE X a ta)
    (na : starEach [a] X.env = (false, eval a X.env) :: starEach [] X.env := by rfl) : PE X (.Call (.Name "sorted" p) [.Call (.Name "set" p2) [a] [] q] [] pos) (tSSet X.K ta) := by
  refine ⟨fun pins s σ H Q I h => ?_⟩
  refine Call_ (ld_blt I hg hm boot_sorted ?_)
  refine PyProof.Rows.callWith_builtin1 (PyProof.Rows.args_cons ?_ rfl) rfl rfl
  refine Call_ (ld_blt I hg2 hm2 boot_set ?_)
  refine PyProof.Rows.callWith_type1 (PyProof.Rows.args_cons (thn (ha.run pins s σ H _ I h) fun v s1 ⟨x, H1, I1, r1, q1⟩ => PyProof.Rows.args_nil ?_) na) na rfl
  obtain ⟨l, xs, rfl, hq, room, q1⟩ := q1
  cases r1
  have fin : ∀ (h' : Heap) (tk : Nat), Txts X.w h' s1.heap.objs.size (fun j => j ∈ xs) → (∀ b o, s1.heap.get? b = some o → h'.get? b = some o) →
      wpAny (model X.prog X.w) X.A (spliced (backTo pos (starEach [] X.env))) (fun vs s₂ => wpAny (model X.prog X.w) X.A (call (.builtin "sorted") (Value.ref s1.heap.objs.size :: vs)) (EP X pins σ Q) X.xe s₂) X.xe { s1 with heap := h', toks := tk } := fun h' tk hS hk => by
    refine PyProof.Rows.args_nil ?_
    have I2 : Inv X pins σ H1 { s1 with heap := h', toks := tk } := I1.kept hk
    refine sorted_txts (s := _) (a := s1.heap.objs.size) (M := fun j => j ∈ xs) hS (I1.ok.hd hc) fun s' p' out c ks k g o hp hget hi hs hn hm => ?_
    have hlen : (ks.map V.str).length ≤ sizeLine := by
      have hroom := room ks hn fun x hx => (hm x).1 hx
      rw [List.length_map, sizeLine_eq]; unfold scanBound at hroom; omega
    have hpn : H1 p' = none := I2.hok.fresh hp
    obtain ⟨hp2, g2, d2, t2, os2⟩ := s'
    have og : g2 = s1.gens := g
    have oo : os2 = s1.os := o
    have J : Inv X pins σ (upd H1 p' (.lst (ks.map V.str))) ⟨hp2, g2, d2, t2, os2⟩ := by
      have J0 : Inv X pins σ (upd H1 p' (.lst (ks.map V.str))) ⟨hp2, g2, d2, t2, s1.os⟩ := Inv.call (s := { s1 with heap := h', toks := tk }) I2 (ch := []) (h' := hp2) (g' := g2) (d' := d2) (t' := t2) (Un.laid k hp hpn) (I2.hok.laid k hp ⟨hlen, out.toList, c, vals_of_strs hi, hget⟩) (by rw [og]; exact I2.bare) (fun _ z => nomatch z)
      rw [oo]
      exact J0
    exact ⟨.ref p', _, J, rfl, q1 ks p' hs hn hm hpn⟩
  rcases hq with hq | hq
  · obtain ⟨its, r, pl, hz⟩ := I1.list hq
    exact set_of_list xs (I1.ok.hd hc) pl.isList (by simpa using strsAre_of r) room fun h' tk hS hk => fin h' tk hS hk
  · obtain ⟨its, r, pl, hz⟩ := I1.tuple hq
    exact set_of_tuple xs (I1.ok.hd hc) pl (by simpa using strsAre_of r) room fun h' tk hS hk => fin h' tk hS hk
/-! ### min and max of texts -/
open PySem.W (minD maxD dataLt dataLt_str AlikeAll min_list_data max_list_data)
def smin (x : Str) (xs : List Str) : Str := xs.foldl (fun a y => if decide (y.cps.toList < a.cps.toList) = true then y else a) x
def smax (x : Str) (xs : List Str) : Str := xs.foldl (fun a y => if decide (a.cps.toList < y.cps.toList) = true then y else a) x
theorem minD_strs : ∀ (xs : List Str) (x : Str), minD (.str x) (xs.map .str) = .str (smin x xs)
  | [], _ => rfl
  | y :: r, x => by
    have ih := minD_strs r (if decide (y.cps.toList < x.cps.toList) = true then y else x)
    unfold minD smin at *
    rw [List.map_cons, List.foldl_cons, List.foldl_cons, dataLt_str, ← ih]
    congr 1
    split <;> rfl
theorem maxD_strs : ∀ (xs : List Str) (x : Str), maxD (.str x) (xs.map .str) = .str (smax x xs)
  | [], _ => rfl
  | y :: r, x => by
    have ih := maxD_strs r (if decide (x.cps.toList < y.cps.toList) = true then y else x)
    unfold maxD smax at *
    rw [List.map_cons, List.foldl_cons, List.foldl_cons, dataLt_str, ← ih]
    congr 1
    split <;> rfl
theorem reads_strs {h : Heap} : ∀ {us : List Value} {xs : List Str}, StrsAre us xs → ReadsAll h us (xs.map PyData.str) []
  | _, _, .nil => .nil
  | _, _, .cons n t hr => ReadsAll.cons (as := []) (bs := []) (.str n t) (reads_strs hr)
theorem alike_strs (xs : List Str) : AlikeAll (xs.map PyData.str) := by
  refine ⟨fun a ha b hb => ?_, fun a ha => ?_⟩
  · obtain ⟨x, _, rfl⟩ := List.mem_map.mp ha
    obtain ⟨y, _, rfl⟩ := List.mem_map.mp hb
    rfl
  · obtain ⟨x, _, rfl⟩ := List.mem_map.mp ha
    intro z
    cases z
theorem depth_strs : ∀ (xs : List Str), PyData.depthAll (xs.map PyData.str) ≤ 1
  | [] => by simp [PyData.depthAll]
  | x :: r => by
    have := depth_strs r
    rw [List.map_cons]
    simp only [PyData.depthAll, PyData.depth]
    omega
def rMinTx (K : PySem.W.Frag) : List V → Hp → VK → Prop := fun vs H Q => ∃ (a : Addr) (x : Str) (xs : List Str), vs = [V.ref a] ∧ SqL K H a ((x :: xs).map V.str) ∧ Q (.str (smin x xs)) H
def rMaxTx (K : PySem.W.Frag) : List V → Hp → VK → Prop := fun vs H Q => ∃ (a : Addr) (x : Str) (xs : List Str), vs = [V.ref a] ∧ SqL K H a ((x :: xs).map V.str) ∧ Q (.str (smax x xs)) H
theorem cr_minTx (hc : X.calm = true) (hu : X.A.units + 65 < cLine) : CallR X (.builtin "min") (rMinTx X.K) := by
  intro pins s σ H vs us Q I r h
  obtain ⟨a, x, xs, rfl, hs, q⟩ := h
  obtain ⟨its, rv, hl, hz⟩ := I.list hs
  rw [Vals.ref1 r]
  have hd := depth_strs (x :: xs)
  refine min_list_data (x := .str x) (xs := xs.map .str) (I.ok.hd hc) hl.isList (by simpa using reads_strs rv.strs) (alike_strs (x :: xs)) (by show _ + 1 + PyData.depthAll ((x :: xs).map PyData.str) < _; omega) fun i v h' tk bs hv hr hk => ?_
  rw [minD_strs] at hr
  cases hr with
  | str z t => exact ⟨.str _, H, I.kept hk, ⟨_, rfl⟩, q⟩
theorem cr_maxTx (hc : X.calm = true) (hu : X.A.units + 65 < cLine) : CallR X (.builtin "max") (rMaxTx X.K) := by
  intro pins s σ H vs us Q I r h
  obtain ⟨a, x, xs, rfl, hs, q⟩ := h
  obtain ⟨its, rv, hl, hz⟩ := I.list hs
  rw [Vals.ref1 r]
  have hd := depth_strs (x :: xs)
  refine max_list_data (x := .str x) (xs := xs.map .str) (I.ok.hd hc) hl.isList (by simpa using reads_strs rv.strs) (alike_strs (x :: xs)) (by show _ + 1 + PyData.depthAll ((x :: xs).map PyData.str) < _; omega) fun i v h' tk bs hv hr hk => ?_
  rw [maxD_strs] at hr
  cases hr with
  | str z t => exact ⟨.str _, H, I.kept hk, ⟨_, rfl⟩, q⟩
/-! ### sum of a tuple -/
theorem preSum_getD : ∀ (ns : List Int) (k : Nat), preSum (fun i => ns.getD i 0) k = (ns.take k).sum := by
  intro ns k
  induction k with
  | zero => simp [preSum]
  | succ k ih =>
    rw [preSum, ih]
    by_cases h : k < ns.length
    · rw [List.take_succ, List.getElem?_eq_getElem h, List.sum_append, List.getD_eq_getElem?_getD, List.getElem?_eq_getElem h]
      simp
    · rw [List.take_of_length_le (by omega), List.take_of_length_le (by omega), List.getD_eq_getElem?_getD, List.getElem?_eq_none (by omega)]
      simp
def rSumT (K : PySem.W.Frag) : List V → Hp → VK → Prop := fun vs H Q => ∃ (a : Addr) (ns : List Int), vs = [V.ref a] ∧ SqT K H a (ns.map V.int) ∧ Q (.int ns.sum) H
theorem cr_sumT (hc : X.calm = true) : CallR X (.builtin "sum") (rSumT X.K) := by
  intro pins s σ H vs us Q I r h
  obtain ⟨a, ns, rfl, hs, q⟩ := h
  obtain ⟨its, rv, pl, hz⟩ := I.tuple hs
  rw [Vals.ref1 r]
  have hi := rv.ints
  have hlen : its.length = ns.length := hi.length
  have hlt : a < s.heap.objs.size := by obtain ⟨_, e, _⟩ := pl; exact Heap.lt_size e
  refine call_sum_walkG (wpAny_pyIter_tuple pl ?_)
  refine ⟨_, [s.heap.objs.size, a], [s.heap.objs.size], its.toArray.size, (fun i v => its.toArray[i]? = some v), _, (fun i => ns.getD i 0), rfl, Walks.tuple (A := X.A.in1) (I.ok.hd hc) _ a (Nat.ne_of_lt hlt) its.toArray, ⟨⟨_, Heap.get?_push_size _ rfl, rfl, rfl⟩, pl.push _⟩, (fun b hb => ?_), (fun i v hv => ?_), fun h' tk t' hk => ?_⟩
  · show b < (s.heap.push _).objs.size
    rw [Heap.size_push]
    rcases List.mem_cons.mp hb with rfl | hb
    · exact Nat.lt_succ_self _
    · rw [List.mem_singleton.mp hb]; exact Nat.lt_succ_of_lt hlt
  · exact IntsAre.int_at hi i v (by simpa using hv)
  · rw [preSum_getD, List.size_toArray, hlen, List.take_length]
    refine ⟨.int _, H, I.kept (h' := h') (t' := tk) fun b o e => hk b o (fun z => ?_) (Heap.get?_push_of_some _ e), ⟨_, rfl⟩, q⟩
    rw [List.mem_singleton.mp z] at e
    exact Nat.lt_irrefl _ (Heap.lt_size e)
/-! ### extend by a tuple -/
theorem ext_tup (l : Addr) (items : Array Value) (n : Nat) (b : Addr) (items2 : Array Value) (n2 : Nat) (dd : Option Addr) (sl : Array (Option Value)) (hs0 : ¬(!items.isEmpty && Builtin.List.listTooLong (items.size + items2.size)) = true) (hs1 : items.size ≤ sizeLine) (hs2 : items.size + items2.size ≤ sizeLine + 1) :
    Meets (Builtin.«list.extend» ⟨[.ref l, .ref b], []⟩) (fun _ R s => s.heap.get? l = some { cls := .type "list", dict := none, data := .seq items n, slots := #[] } ∧ s.heap.get? b = some { cls := .type "tuple", dict := dd, data := .seq items2 n2, slots := sl } ∧ R (.ok (.ret Value.none)) { s with heap := s.heap.update l (Obj.mapSeq fun x => x ++ items2), toks := s.toks }) :=
  .of_wp fun prog w A R s h => by
    obtain ⟨hp, g, d, tk, os⟩ := s
    obtain ⟨hl, hb, h⟩ := h
    have f1 := PySem.AutoSeq1.idx_int; have f2 := PySem.AutoSeq1.sub_tuple_tuple; have f3 := PySem.AutoSeq1.sub_list_list; have f4 := PySem.AutoSeq1.sub_tuple_list; have f5 := PySem.AutoSeq1.sub_list_tuple
    have hz' : (items ++ items2).size ≤ sizeLine + 1 := by rw [Array.size_append]; exact hs2
    wp_walk using (wpAny_updateSeq hl rfl (hz := hs1) (_hz' := hz')), PySem.AutoSeq1.wpAny_loadPart' hl, PySem.AutoSeq1.wpAny_loadPart' hb
    exact ⟨_, rfl, h⟩
def rExtendT (K : PySem.W.Frag) : V → List V → Hp → VK → Prop := fun x vs H Q => ∃ l b xs zs, x = .ref l ∧ vs = [.ref b] ∧ H l = some (.lst xs) ∧ SqT K H b zs ∧ xs.length + zs.length ≤ sizeLine ∧ Q .non (upd H l (.lst (xs ++ zs)))
theorem mt_extendT : MtM X "list.extend" (rExtendT X.K) := by
  intro pins s σ H x vs v us Q I rx rv h
  obtain ⟨l, b, xs, zs, rfl, rfl, hH, hB, hz, q⟩ := h
  cases rx
  obtain ⟨u, rfl, ru⟩ := rv.one
  cases ru
  obtain ⟨z, its, n, r, hl, e⟩ := I.lstM hH
  obtain ⟨its2, r2, pl, hz2⟩ := I.tuple hB
  obtain ⟨⟨oc, dd, od, sl⟩, ho, hc, n2, hd⟩ := pl
  simp only at hc hd
  subst hc
  subst hd
  have hl2 : its2.length = zs.length := r2.length.symm
  have hl1 : its.length = xs.length := r.length.symm
  have hsz : its.toArray.size + its2.toArray.size ≤ sizeLine := by rw [List.size_toArray, List.size_toArray]; omega
  have hlong : ¬ (!its.toArray.isEmpty && Builtin.List.listTooLong (its.toArray.size + its2.toArray.size)) = true := by
    rw [notLongL hsz, Bool.and_false]
    exact Bool.false_ne_true
  refine call_meets PySem.F.slot_list_extend ⟨_, e, rfl⟩ PySem.F.entry_list_extend (PySem.F.args_list_extend_2 _ _)
    (ext_tup l its.toArray n b its2.toArray n2 dd sl hlong (by rw [List.size_toArray]; omega) (by omega)) ⟨e, ho, ?_⟩
  refine ⟨.non, _, I.lset (its' := its ++ its2) hH e (by simp) (r.append r2) ?_, rfl, q⟩
  rw [List.length_append]
  omega
end
end EvSet

set_option Elab.async false
set_option linter.all false
set_option maxRecDepth 100000
/-! Ev, part 1: data, own syntax, the evaluator. -/
namespace Ev
open PySem L2

/-- a text by its codes -/
abbrev S (l : List Nat) : Str := ⟨l.toArray⟩

/-- data: tuples and frozen lists and dicts are plain values; ref n is cell n of the store -/
inductive D where
  | non | bl (b : Bool) | int (i : Int) | str (x : Str)
  | tup (xs : List D) | lst (xs : List D) | fz (xs : List D) | tk (xs : List D)
  | dk (kvs : List (Key × D)) | dt (kvs : List (List Key × D))
  | ins (c : Nat) (fs : List (Nat × D))
  | ref (n : Nat) | fn (f : Nat) | cl (c : Nat) | ty (n : String)
  | err (c : Nat) (fs : List (Nat × D))

/-- the most items of a list -/
def SZ : Nat := 16777216

mutual
/-- every reference is below f -/
def D.lo (f : Nat) : D → Bool
  | .tup xs => D.los f xs
  | .lst xs => D.los f xs
  | .fz xs => D.los f xs
  | .tk xs => D.los f xs
  | .dk kvs => D.loK f kvs
  | .dt kvs => D.loT f kvs
  | .ins _ fs => D.loF f fs
  | .err _ fs => D.loF f fs
  | .ref n => decide (n < f)
  | .non => true | .bl _ => true | .int _ => true | .str _ => true | .fn _ => true | .cl _ => true | .ty _ => true
def D.los (f : Nat) : List D → Bool
  | [] => true
  | d :: r => D.lo f d && D.los f r
def D.loK (f : Nat) : List (Key × D) → Bool
  | [] => true
  | p :: r => D.lo f p.2 && D.loK f r
def D.loT (f : Nat) : List (List Key × D) → Bool
  | [] => true
  | p :: r => D.lo f p.2 && D.loT f r
def D.loF (f : Nat) : List (Nat × D) → Bool
  | [] => true
  | p :: r => D.lo f p.2 && D.loF f r
end

abbrev Sto := List D
abbrev Env := List (Option D)

inductive Out (α : Type) where
  | ok (a : α) (st : Sto)
  | exc (c : Nat) (fs : List (Nat × D)) (st : Sto)
  | bad

@[inline] def Out.bind {α β : Type} (x : Out α) (f : α → Sto → Out β) : Out β :=
  match x with
  | .ok a st => f a st
  | .exc c fs st => .exc c fs st
  | .bad => .bad
@[simp] theorem Out.bind_ok {α β : Type} {a : α} {st : Sto} {f : α → Sto → Out β} : (Out.ok a st).bind f = f a st := rfl
@[simp] theorem Out.bind_exc {α β : Type} {c : Nat} {fs : List (Nat × D)} {st : Sto} {f : α → Sto → Out β} : (Out.exc c fs st : Out α).bind f = .exc c fs st := rfl
@[simp] theorem Out.bind_bad {α β : Type} {f : α → Sto → Out β} : (Out.bad : Out α).bind f = .bad := rfl
theorem Out.bind_assoc {α β γ : Type} {x : Out α} {f : α → Sto → Out β} {g : β → Sto → Out γ} : (x.bind f).bind g = x.bind fun a s => (f a s).bind g := by
  cases x <;> rfl
/-- what may not raise -/
def Out.noX {α : Type} (x : Out α) : Out α :=
  match x with
  | .ok a st => .ok a st
  | _ => .bad
@[simp] theorem Out.noX_ok {α : Type} {a : α} {st : Sto} : (Out.ok a st).noX = .ok a st := rfl
@[simp] theorem Out.noX_bad {α : Type} : (Out.bad : Out α).noX = .bad := rfl
/-- a partial operation -/
def lift {α : Type} (o : Option α) (st : Sto) : Out α :=
  match o with
  | some a => .ok a st
  | none => .bad
@[simp] theorem lift_some {α : Type} {a : α} {st : Sto} : lift (some a) st = .ok a st := rfl
@[simp] theorem lift_none {α : Type} {st : Sto} : lift (none : Option α) st = .bad := rfl

/-- what a value holds: a cell's content, or itself -/
def view (st : Sto) (d : D) : D :=
  match d with
  | .ref n => (st[n]?).getD .non
  | d => d

/-! ### own syntax -/
inductive BOp where | add | sub | mul | mod | fdiv | pow
  deriving DecidableEq
inductive COp where | eq | ne | lt | le | gt | ge | mem | nmem
  deriving DecidableEq
/-- built-ins by one name and positional arguments -/
inductive Bi where | len | abs | int | tuple | list | all | any | min1 | max1 | min2 | max2 | sum | sorted | str | ord | dict | isinst | set
  deriving DecidableEq
/-- methods of built-in types -/
inductive Bm where | append | extend | index | get1 | get2 | join | pop2 | bitlen
  deriving DecidableEq

/-- targets: a slot, or a tuple of slots -/
inductive Tg where | one (i : Nat) | many (is : List Nat)
  deriving DecidableEq

mutual
inductive Ex where
  | non | bool (b : Bool) | int (i : Int) | str (x : Str)
  | var (i : Nat)
  | gf (f : Nat)
  | gc (c : Nat)
  | tyE (n : String)
  | bin (op : BOp) (a b : Ex)
  | neg (a : Ex) | nt (a : Ex)
  | andE (as : Exs) | orE (as : Exs)
  | cmp (op : COp) (a b : Ex)
  | chain (op op2 : COp) (a b c : Ex)
  | isN (a : Ex) | notN (a : Ex)
  | isB (a : Ex) (b : Bool) | notB (a : Ex) (b : Bool)
  | call (f : Nat) (as : Exs)
  | callv (i : Nat) (as : Exs)
  | bi (n : Bi) (as : Exs)
  | listR (s : Src)
  | bm (m : Bm) (o : Ex) (as : Exs)
  | meth (m : Str) (o : Ex) (as : Exs)
  | mk (c : Nat) (as : Exs)
  | attr (o : Ex) (f : Nat)
  | idx (o i : Ex)
  | slc (o : Ex) (lo hi : Exs)
  | tupE (as : Exs) | lstE (as : Exs)
  | dicE (ps : Prs)
  | dic0 (t : Bool)
  | lc (elt : Ex) (tg : Tg) (src : Src) (test : Exs) (own : List Nat)
  | box (a : Ex)
  | ite (c a b : Ex)
  | bits (a : Ex)
  | sset (a : Ex)
  | dix (c : Nat) (i : Ex)
  | orV (a b : Ex)
  | dc (k v : Ex) (tg : Tg) (src : Src) (test : Exs) (own : List Nat)
inductive Exs where
  | nil | cons (a : Ex) (r : Exs)
inductive Prs where
  | nil | cons (k v : Ex) (r : Prs)
inductive Src where
  | rng1 (a : Ex) | rng2 (a b : Ex) | seq (a : Ex) | rev (a : Ex) | cel (a : Ex) | rng3 (a b c : Ex)
end

/-- what an except suite may say -/
inductive Su where
  | non | bool (b : Bool) | int (i : Int) | str (x : Str)
  | var (i : Nat)
  | tup2 (a b : Su)
  | nt (a : Su) | andS (a b : Su) | orS (a b : Su)
  | isE (c : Nat)
inductive Sh where
  | ret (e : Su) | retN
  | ifR (c a : Su) (r : Sh)
inductive Hds where
  | nil | cons (c : Nat) (n : Option Nat) (s : Sh) (r : Hds)
mutual
inductive Sm where
  | set (i : Nat) (e : Ex)
  | sets (is : List Nat) (e : Ex)
  | put (o i e : Ex)
  | fld (o : Ex) (f : Nat) (e : Ex)
  | expr (e : Ex)
  | doc
  | ret (e : Ex) | retN
  | ifS (c : Ex) (a b : Sms)
  | forS (tg : Tg) (src : Src) (b : Sms)
  | whl (c : Ex) (b : Sms)
  | brk | cont
  | raise (c : Nat) (m : Str)
  | raiseI (c : Nat) (e : Ex)
  | tryS (b : Sms) (hs : Hds)
inductive Sms where
  | nil | cons (a : Sm) (r : Sms)
end

structure Fn where
  name : Str
  np : Nat
  N : List Str
  body : Sms
  pop : Bool := true

structure Prog where
  fns : List Fn
  cons : List (Str × D)
  /-- own error classes: the name, whether they are made with an index, what they stand under -/
  excs : List (Str × Bool × List Nat)
  /-- dicts of the module whose keys are texts -/
  dics : List (Str × List (Str × D)) := []
/-- class c stands under class c' -/
def subB (G : Prog) (c c' : Nat) : Bool := match G.excs[c]? with
  | some p => p.2.2.contains c'
  | none => false

/-! ### operations -/
/-- the product is not too great -/
def mulOk (i j : Int) : Bool := decide (i.natAbs < 2 ^ 64) || decide (j.natAbs < 2 ^ 64) || decide (i.natAbs.log2 + j.natAbs.log2 < 1000000)
def divOk (j : Int) : Bool := decide (0 < j) && decide (j.natAbs.log2 < 9000)
/-- x * n -/
def repS (x : Str) (n : Nat) : Str := ⟨(List.replicate n x.cps).foldl (· ++ ·) #[]⟩
def binD (st : Sto) (op : BOp) (a b : D) : Option D :=
  match op, view st a, view st b with
  | .add, .int i, .int j => some (.int (i + j))
  | .add, .lst xs, .lst ys => if xs.length + ys.length ≤ SZ then some (.lst (xs ++ ys)) else none
  | .add, .tup xs, .tup ys => if xs.length + ys.length ≤ SZ then some (.tup (xs ++ ys)) else none
  | .add, .str x, .str y => if x.length + y.length ≤ SZ then some (.str (x ++ y)) else none
  | .sub, .int i, .int j => some (.int (i - j))
  | .mul, .int i, .int j => if mulOk i j then some (.int (i * j)) else none
  | .mul, .lst xs, .int k => if xs.length * k.toNat ≤ SZ ∧ k.natAbs ≤ SZ then some (.lst (List.replicate k.toNat xs).flatten) else none
  | .mul, .tup xs, .int k => if xs.length ≤ 1000 ∧ 1 ≤ k ∧ k ≤ 1000 ∧ xs ≠ [] then some (.tup (List.replicate k.toNat xs).flatten) else none
  | .mul, .str x, .int k => if 2 ≤ k ∧ k ≤ 1000 ∧ 1 ≤ x.length ∧ x.length ≤ 1000 then some (.str (repS x k.toNat)) else none
  | .mod, .int i, .int j => if 0 < j then some (.int (i % j)) else none
  | .fdiv, .int i, .int j => if divOk j then some (.int (i / j)) else none
  | .pow, .int i, .int j => if 0 ≤ j ∧ j ≤ 1000000 ∧ i.natAbs < 2 ^ 64 then some (.int (i ^ j.toNat)) else none
  | _, _, _ => none

mutual
/-- may be compared: no references, dicts, texts of codes that are none; n deep -/
def okN : Nat → D → Bool
  | _, .non => true
  | _, .bl _ => true
  | _, .int _ => true
  | _, .str _ => true
  | n + 1, .tup xs => okNs n xs
  | n + 1, .lst xs => okNs n xs
  | _, _ => false
def okNs : Nat → List D → Bool
  | _, [] => true
  | n, x :: xs => okN n x && okNs n xs
end
mutual
def eqv : D → D → Bool
  | .non, .non => true
  | .bl a, .bl b => a == b
  | .bl a, .int j => (if a then 1 else 0) == j
  | .int i, .bl b => i == (if b then 1 else 0)
  | .int i, .int j => decide (i = j)
  | .str x, .str y => decide (x = y)
  | .lst xs, .lst ys => eqvs xs ys
  | .tup xs, .tup ys => eqvs xs ys
  | _, _ => false
def eqvs : List D → List D → Bool
  | [], [] => true
  | x :: xs, y :: ys => eqv x y && eqvs xs ys
  | _, _ => false
end
def eqD (st : Sto) (a b : D) : Option Bool :=
  if okN 60 (view st a) && okN 60 (view st b) then some (eqv (view st a) (view st b)) else none

def keyD : D → Option Key
  | .int i => some (.inl i)
  | .str x => some (.inr x)
  | _ => none
def keysD : List D → Option (List Key)
  | [] => some []
  | d :: r => match keyD d, keysD r with
    | some k, some ks => some (k :: ks)
    | _, _ => none
section
variable {κ : Type} [DecidableEq κ]
def dget (kvs : List (κ × D)) (k : κ) : Option D := (kvs.find? fun kv => decide (kv.1 = k)).map (·.2)
def dput (kvs : List (κ × D)) (k : κ) (v : D) : List (κ × D) :=
  if (kvs.any fun kv => decide (kv.1 = k)) = true then kvs.map (fun kv => if kv.1 = k then (kv.1, v) else kv) else kvs ++ [(k, v)]
end

/-- a flat thing -/
def flat : D → Bool
  | .non => true
  | .bl _ => true
  | .int _ => true
  | .str _ => true
  | _ => false
def memD (st : Sto) (a b : D) : Option Bool :=
  match view st b with
  | .lst xs => if okN 60 a && okNs 59 xs then some (xs.any fun x => eqv x a) else none
  | .tup xs => if flat a && xs.all flat then some (xs.any fun x => eqv x a) else none
  | .tk xs => if flat a && xs.all flat then some (xs.any fun x => eqv x a) else none
  | .str z => match a with
    | .str x => (match x.cps.toList with
      | [c] => some (decide (c ∈ z.cps.toList))
      | _ => none)
    | _ => none
  | .dk kvs => (keyD a).map fun k => (dget kvs k).isSome
  | .dt kvs => match a with
    | .tup ds => (keysD ds).map fun k => (dget kvs k).isSome
    | _ => none
  | _ => none

def ltS (x y : Str) : Bool := decide (x.cps.toList < y.cps.toList)
def cmpD (st : Sto) (op : COp) (a b : D) : Option Bool :=
  match op with
  | .eq => eqD st a b
  | .ne => (eqD st a b).map (!·)
  | .mem => memD st a b
  | .nmem => (memD st a b).map (!·)
  | .lt => match a, b with
    | .int i, .int j => some (decide (i < j))
    | .str x, .str y => some (ltS x y)
    | _, _ => none
  | .le => match a, b with
    | .int i, .int j => some (decide (i ≤ j))
    | .str x, .str y => some (!ltS y x)
    | _, _ => none
  | .gt => match a, b with
    | .int i, .int j => some (decide (j < i))
    | .str x, .str y => some (ltS y x)
    | _, _ => none
  | .ge => match a, b with
    | .int i, .int j => some (decide (j ≤ i))
    | .str x, .str y => some (!ltS x y)
    | _, _ => none

def idxD (st : Sto) (o i : D) : Option D :=
  match view st o, i with
  | .lst xs, .int i => atI xs i
  | .tup xs, .int i => atI xs i
  | .fz xs, .int i => atI xs i
  | .tk xs, .int i => atI xs i
  | .str z, .int i => if z.length ≤ SZ then (atI z.cps.toList i).map fun c => .str ⟨#[c]⟩ else none
  | .dk kvs, i => (keyD i).bind fun k => dget kvs k
  | .dt kvs, .tup ds => (keysD ds).bind fun k => dget kvs k
  | _, _ => none

def cutD (xs : List D) (lo hi : Option Int) : List D :=
  List.take (HT.sIx xs.length xs.length hi - HT.sIx xs.length 0 lo) (List.drop (HT.sIx xs.length 0 lo) xs)
def optI : List D → Option (Option Int)
  | [] => some none
  | [.int i] => some (some i)
  | _ => none
def slcD (st : Sto) (o : D) (lo hi : Option Int) : Option D :=
  match view st o with
  | .lst xs => some (.lst (cutD xs lo hi))
  | .tup xs => some (.tup (cutD xs lo hi))
  | _ => none

def toBools : List D → Option (List Bool)
  | [] => some []
  | .bl b :: r => (toBools r).map (b :: ·)
  | _ :: _ => none
def toInts : List D → Option (List Int)
  | [] => some []
  | .int i :: r => (toInts r).map (i :: ·)
  | _ :: _ => none
def toStrs : List D → Option (List Str)
  | [] => some []
  | .str i :: r => (toStrs r).map (i :: ·)
  | _ :: _ => none
/-- into a row of texts that ascends -/
def insT (x : Str) : List Str → List Str
  | [] => [x]
  | y :: r => if ltS y x = true then y :: insT x r else x :: y :: r
def tsort : List Str → List Str
  | [] => []
  | x :: r => insT x (tsort r)
/-- the same, each text once -/
def insU (x : Str) : List Str → List Str
  | [] => [x]
  | y :: r => if x = y then y :: r else if ltS y x = true then y :: insU x r else x :: y :: r
def usort : List Str → List Str
  | [] => []
  | x :: r => insU x (usort r)
def ins1 (x : Int) : List Int → List Int
  | [] => [x]
  | y :: r => if x ≤ y then x :: y :: r else y :: ins1 x r
def isort : List Int → List Int
  | [] => []
  | x :: r => ins1 x (isort r)
def imin : Int → List Int → Int
  | x, [] => x
  | x, y :: r => imin (if y < x then y else x) r
def imax : Int → List Int → Int
  | x, [] => x
  | x, y :: r => imax (if x < y then y else x) r

/-- the items of a list or a tuple -/
def items (st : Sto) (d : D) : Option (List D) :=
  match view st d with
  | .lst xs => some xs
  | .tup xs => some xs
  | .fz xs => some xs
  | .tk xs => some xs
  | _ => none

/-- the name of a value's type -/
def tyD : D → Option String
  | .non => some "NoneType"
  | .bl _ => some "bool"
  | .int _ => some "int"
  | .str _ => some "str"
  | .tup _ => some "tuple"
  | .tk _ => some "tuple"
  | .lst _ => some "list"
  | .fz _ => some "list"
  | .dk _ => some "dict"
  | .dt _ => some "dict"
  | _ => none
def biD (st : Sto) (n : Bi) (as : List D) : Option D :=
  match n, as with
  | .len, [d] => match view st d with
    | .lst xs => some (.int xs.length)
    | .tup xs => some (.int xs.length)
    | .fz xs => some (.int xs.length)
    | .tk xs => some (.int xs.length)
    | .str x => if x.length ≤ SZ then some (.int x.length) else none
    | _ => none
  | .abs, [.int i] => some (.int (if i < 0 then -i else i))
  | .int, [.int i] => some (.int i)
  | .int, [.bl b] => some (.int (if b = true then 1 else 0))
  | .tuple, [d] => match view st d with
    | .lst xs => some (.tup xs)
    | .tup xs => some (.tup xs)
    | _ => none
  | .list, [d] => match view st d with
    | .lst xs => some (.lst xs)
    | .tup xs => some (.lst xs)
    | _ => none
  | .all, [d] => match view st d with
    | .lst xs => (toBools xs).map fun bs => .bl (bs.all id)
    | _ => none
  | .any, [d] => match view st d with
    | .lst xs => (toBools xs).map fun bs => .bl (bs.any id)
    | _ => none
  | .min2, [.int i, .int j] => some (.int (if j < i then j else i))
  | .max2, [.int i, .int j] => some (.int (if j > i then j else i))
  | .min1, [d] => match view st d with
    | .lst xs => match toInts xs with
      | some (x :: r) => some (.int (imin x r))
      | some [] => none
      | none => match toStrs xs with
        | some (x :: r) => some (.str (EvSet.smin x r))
        | _ => none
    | _ => none
  | .max1, [d] => match view st d with
    | .lst xs => match toInts xs with
      | some (x :: r) => some (.int (imax x r))
      | some [] => none
      | none => match toStrs xs with
        | some (x :: r) => some (.str (EvSet.smax x r))
        | _ => none
    | _ => none
  | .sum, [d] => match view st d with
    | .lst xs => (toInts xs).map fun ns => .int ns.sum
    | .tup xs => (toInts xs).map fun ns => .int ns.sum
    | _ => none
  | .sorted, [d] => match view st d with
    | .lst xs => match toInts xs with
      | some ns => some (.lst ((isort ns).map .int))
      | none => (toStrs xs).map fun ss => .lst ((tsort ss).map .str)
    | _ => none
  | .str, [.int i] => if i.natAbs.log2 < 1920 then some (.str (toString i)) else none
  | .ord, [.str x] => if x.length = 1 then some (.int (x.cps.getD 0 0 : Nat)) else none
  | .isinst, [d, .ty t] => (tyD (view st d)).bind fun n => (kitB n t).map .bl
  | _, _ => none

def textsOf (st : Sto) (x : D) : Option (List Str) := match view st x with
  | .lst xs => toStrs xs
  | .tup xs => toStrs xs
  | _ => none
/-! ### the evaluator -/
def setSlots (ρ : Env) : List Nat → List D → Option Env
  | [], [] => some ρ
  | i :: is, d :: ds => setSlots (ρ.set i (some d)) is ds
  | _, _ => none
def asg (ρ : Env) (tg : Tg) (d : D) : Option Env :=
  match tg with
  | .one i => some (ρ.set i (some d))
  | .many is => match d with
    | .tup ds => setSlots ρ is ds
    | .tk ds => setSlots ρ is ds
    | _ => none
def wipeD (ρ : Env) : List Nat → Env
  | [] => ρ
  | v :: vs => (wipeD ρ vs).set v none

def lcGo (f : D → Sto → Out (Option D)) : List D → Sto → Out (List D)
  | [], st => .ok [] st
  | x :: xs, st => (f x st).bind fun o st1 => (lcGo f xs st1).bind fun r st2 => .ok (match o with | some d => d :: r | none => r) st2

def dcGo (f : D → Sto → Out (Option (Key × D))) : List D → List (Key × D) → Sto → Out (List (Key × D))
  | [], acc, st => .ok acc st
  | x :: xs, acc, st => (f x st).bind fun o st1 => dcGo f xs (match o with | some p => dput acc p.1 p.2 | none => acc) st1
/-- a value's truth -/
def trD : D → Option Bool
  | .non => some false
  | .bl b => some b
  | .tup xs => some (!xs.isEmpty)
  | _ => none

def rng (lo hi : Int) : List D := (List.range (hi - lo).toNat).map fun k => .int (lo + (k : Nat))
def rngS (lo c : Int) (n : Nat) : List D := (List.range n).map fun k => .int (lo + (k : Nat) * c)
/-- the signs of a text -/
def chars (x : Str) : List D := x.cps.toList.map fun c => .str ⟨#[c]⟩
def isNon : D → Bool
  | .non => true
  | _ => false
def isC : D → Bool
  | .lst _ => true
  | .dk _ => true
  | .dt _ => true
  | _ => false
def small62 (i : Int) : Bool := decide (i.natAbs < 2 ^ 62)
theorem small62_b {i : Int} (h : small62 i = true) : -(2 ^ 62) ≤ i ∧ i < 2 ^ 62 := by
  have h := of_decide_eq_true h
  omega

/-- a cell may be written: it is the frame's own, or what is written holds no reference -/
def wrOk (fl n : Nat) (d : D) : Bool := decide (fl ≤ n) || d.lo 0
/-- the type of a method's receiver -/
def recvT (b : Bm) (x : D) : Option String :=
  match b, x with
  | .append, .lst _ => some "list"
  | .extend, .lst _ => some "list"
  | .index, .lst _ => some "list"
  | .join, .str _ => some "str"
  | _, _ => none
/-- methods of built-in types -/
def bmD (fl : Nat) (b : Bm) (x : D) (as : List D) (st : Sto) : Out D :=
  match b, x, as with
  | .append, .ref n, [v] => match st[n]? with
    | some (.lst xs) => if xs.length < SZ ∧ wrOk fl n v = true then .ok .non (st.set n (.lst (xs ++ [v]))) else .bad
    | _ => .bad
  | .extend, .ref n, [v] => match st[n]?, view st v with
    | some (.lst xs), .lst ys => if xs.length + ys.length ≤ SZ ∧ wrOk fl n (.lst ys) = true then .ok .non (st.set n (.lst (xs ++ ys))) else .bad
    | some (.lst xs), .tup ys => if xs.length + ys.length ≤ SZ ∧ wrOk fl n (.lst ys) = true then .ok .non (st.set n (.lst (xs ++ ys))) else .bad
    | _, _ => .bad
  | .index, x, [v] => match view st x with
    | .lst xs => if flat v = true ∧ xs.all flat = true then (match xs.findIdx? (fun x => eqv x v) with
      | some j => .ok (.int (j : Nat)) st
      | none => .bad) else .bad
    | _ => .bad
  | .join, .str a, [v] => match textsOf st v with
    | some ys => if (ys.map (·.length)).sum + ys.length * a.length ≤ SZ then .ok (.str (Str.join a ys)) st else .bad
    | none => .bad
  | _, _, _ => .bad

/-- the items of a walk over a cell: where they stand -/
def celIt (n L : Nat) : List D := (List.range L).map fun i : Nat => .tup [.ref n, .int (L : Nat), .int (i : Nat)]
def itmD (st : Sto) : D → Option D
  | .tup [.ref n, .int L, .int i] => match st[n]? with
    | some (.lst ys) => if (ys.length : Int) = L then ys[i.toNat]? else none
    | _ => none
  | _ => none
def srcRes (src : Src) (st : Sto) (x : D) : Option D := match src with
  | .cel _ => itmD st x
  | _ => some x
def srcEnd (src : Src) (xs : List D) (st : Sto) : Bool := match src with
  | .cel _ => (match xs with
    | .tup [.ref n, .int L] :: _ => (match st[n]? with
      | some (.lst ys) => decide ((ys.length : Int) = L)
      | _ => false)
    | _ => false)
  | _ => true
def srcIts (src : Src) (xs : List D) : List D := match src with
  | .cel _ => xs.tail
  | _ => xs
section
variable (G : Prog) (C : Nat → List D → Sto → Out D) (fl : Nat)
mutual
def evE (ρ : Env) : Ex → Sto → Out D
  | .non, st => .ok .non st
  | .bool b, st => .ok (.bl b) st
  | .int i, st => .ok (.int i) st
  | .str x, st => .ok (.str x) st
  | .var i, st => match ρ[i]? with
    | some (some d) => .ok d st
    | _ => .bad
  | .gf f, st => .ok (.fn f) st
  | .gc c, st => match G.cons[c]? with
    | some p => .ok p.2 st
    | none => .bad
  | .tyE n, st => .ok (.ty n) st
  | .bin op a b, st => (evE ρ a st).bind fun x st => (evE ρ b st).bind fun y st => lift (binD st op x y) st
  | .neg a, st => (evE ρ a st).bind fun x st => match x with
    | .int i => .ok (.int (-i)) st
    | _ => .bad
  | .nt a, st => (evE ρ a st).bind fun x st => match x with
    | .bl b => .ok (.bl (!b)) st
    | _ => .bad
  | .andE as, st => evAnd ρ as st
  | .orE as, st => evOr ρ as st
  | .cmp op a b, st => (evE ρ a st).bind fun x st => (evE ρ b st).bind fun y st => lift ((cmpD st op x y).map D.bl) st
  | .chain op op2 a b c, st => (evE ρ a st).bind fun x st => (evE ρ b st).bind fun y st =>
      match cmpD st op x y with
      | some true => (evE ρ c st).bind fun z st => lift ((cmpD st op2 y z).map D.bl) st
      | some false => .ok (.bl false) st
      | none => .bad
  | .isN a, st => (evE ρ a st).bind fun x st => .ok (.bl (isNon x)) st
  | .notN a, st => (evE ρ a st).bind fun x st => .ok (.bl (!isNon x)) st
  | .isB a b, st => (evE ρ a st).bind fun x st => match x with
    | .bl c => .ok (.bl (decide (c = b))) st
    | _ => .bad
  | .notB a b, st => (evE ρ a st).bind fun x st => match x with
    | .bl c => .ok (.bl (!decide (c = b))) st
    | _ => .bad
  | .call f as, st => (evEs ρ as st).bind fun ds st => C f ds st
  | .callv i as, st => match ρ[i]? with
    | some (some (.fn f)) => (evEs ρ as st).bind fun ds st => if (G.fns[f]?).map (·.np) = some ds.length then C f ds st else .bad
    | _ => .bad
  | .bi n as, st => (evEs ρ as st).bind fun ds st => lift (biD st n ds) st
  | .listR s, st => match s with
    | .seq _ => .bad
    | .rev _ => .bad
    | .cel _ => .bad
    | .rng3 _ _ _ => .bad
    | s => (evI ρ s st).bind fun xs st => if xs.length ≤ SZ then .ok (.lst xs) st else .bad
  | .bm m o as, st => (evE ρ o st).bind fun x st => match recvT m (view st x) with
    | none => .bad
    | some T => (evEs ρ as st).bind fun ds st => if recvT m (view st x) = some T then bmD fl m x ds st else .bad
  | .meth m o as, st => .bad
  | .mk c as, st => .bad
  | .attr o f, st => (evE ρ o st).bind fun x st => match view st x with
    | .ins _ fs => lift (fs.lookup f) st
    | _ => .bad
  | .idx o i, st => (evE ρ o st).bind fun x st => (evE ρ i st).bind fun y st => lift (idxD st x y) st
  | .slc o lo hi, st => (evE ρ o st).bind fun x st => (evEs ρ lo st).bind fun l st => match optI l with
    | none => .bad
    | some l => (evEs ρ hi st).bind fun h st => match optI h with
      | none => .bad
      | some h => lift (slcD st x l h) st
  | .tupE as, st => (evEs ρ as st).bind fun ds st => .ok (.tup ds) st
  | .lstE as, st => (evEs ρ as st).bind fun ds st => .ok (.lst ds) st
  | .dicE ps, st => (evPs ρ ps st).noX.bind fun kvs st => .ok (.dk (kvs.foldl (fun a p => dput a p.1 p.2) [])) st
  | .dic0 t, st => .ok (if t then .dt [] else .dk []) st
  | .lc elt tg src test own, st => (evI ρ src st).bind fun xs st =>
      if xs.length ≤ SZ then
        (lcGo (fun x st => match srcRes src st x with
          | some x => (match asg (wipeD ρ own) tg x with
            | some ρ' => (evT ρ' test st).bind fun b st => if b = true then (evE ρ' elt st).bind fun d st => .ok (some d) st else .ok none st
            | none => .bad)
          | none => .bad) (srcIts src xs) st).noX.bind fun ds st' => if srcEnd src xs st' = true then .ok (.lst ds) st' else .bad
      else .bad
  | .box a, st => (evE ρ a st).bind fun d st => if isC d = true then .ok (.ref st.length) (st ++ [d]) else .bad
  | .ite c a b, st => (evE ρ c st).bind fun x st => match x with
    | .bl true => evE ρ a st
    | .bl false => evE ρ b st
    | _ => .bad
  | .bits a, st => (evE ρ a st).bind fun x st => match x with
    | .int i => .ok (.int (Builtin.Int.intBits i : Nat)) st
    | _ => .bad
  | .sset a, st => (evE ρ a st).bind fun x st => match textsOf st x with
    | some ss => if (usort ss).length < 4095 then .ok (.lst ((usort ss).map .str)) st else .bad
    | none => .bad
  | .dix c i, st => (evE ρ i st).bind fun x st => match x with
    | .str z => match G.dics[c]? with
      | some p => match p.2.lookup z with
        | some d => .ok d st
        | none => .bad
      | none => .bad
    | _ => .bad
  | .orV a b, st => (evE ρ a st).bind fun x st => match trD x with
    | some true => .ok x st
    | some false => evE ρ b st
    | none => .bad
  | .dc k v tg src test own, st => (evI ρ src st).bind fun xs st =>
      if xs.length ≤ SZ then
        (dcGo (fun x st => match srcRes src st x with
          | some x => (match asg (wipeD ρ own) tg x with
            | some ρ' => (evT ρ' test st).bind fun b st => if b = true then (evE ρ' k st).bind fun kd st => (evE ρ' v st).bind fun d st => (match keyD kd with
              | some key => .ok (some (key, d)) st
              | none => .bad) else .ok none st
            | none => .bad)
          | none => .bad) (srcIts src xs) [] st).noX.bind fun ds st' => if srcEnd src xs st' = true then .ok (.dk ds) st' else .bad
      else .bad
def evEs (ρ : Env) : Exs → Sto → Out (List D)
  | .nil, st => .ok [] st
  | .cons a r, st => (evE ρ a st).bind fun x st => (evEs ρ r st).bind fun xs st => .ok (x :: xs) st
def evPs (ρ : Env) : Prs → Sto → Out (List (Key × D))
  | .nil, st => .ok [] st
  | .cons k v r, st => (evE ρ k st).bind fun x st => (evE ρ v st).bind fun d st => match keyD x with
    | some key => (evPs ρ r st).bind fun ps st => .ok ((key, d) :: ps) st
    | none => .bad
/-- tests of a clause: none, or one -/
def evT (ρ : Env) : Exs → Sto → Out Bool
  | .nil, st => .ok true st
  | .cons a _, st => (evE ρ a st).bind fun x st => match x with
    | .bl b => .ok b st
    | _ => .bad
def evAnd (ρ : Env) : Exs → Sto → Out D
  | .nil, _ => .bad
  | .cons a .nil, st => evE ρ a st
  | .cons a r, st => (evE ρ a st).bind fun x st => match x with
    | .bl true => evAnd ρ r st
    | .bl false => .ok (.bl false) st
    | _ => .bad
def evOr (ρ : Env) : Exs → Sto → Out D
  | .nil, _ => .bad
  | .cons a .nil, st => evE ρ a st
  | .cons a r, st => (evE ρ a st).bind fun x st => match x with
    | .bl true => .ok (.bl true) st
    | .bl false => evOr ρ r st
    | _ => .bad
def evI (ρ : Env) : Src → Sto → Out (List D)
  | .rng1 a, st => (evE ρ a st).bind fun x st => match x with
    | .int n => if small62 n = true then .ok (rng 0 n) st else .bad
    | _ => .bad
  | .rng2 a b, st => (evE ρ a st).bind fun x st => (evE ρ b st).bind fun y st => match x, y with
    | .int i, .int j => if small62 i = true ∧ small62 j = true then .ok (rng i j) st else .bad
    | _, _ => .bad
  | .seq a, st => (evE ρ a st).bind fun x st => match x with
    | .lst xs => .ok xs st
    | .tup xs => .ok xs st
    | .fz xs => .ok xs st
    | .tk xs => .ok xs st
    | .str x => .ok (chars x) st
    | _ => .bad
  | .rev a, st => (evE ρ a st).bind fun x st => match x with
    | .lst xs => .ok xs.reverse st
    | .tup xs => .ok xs.reverse st
    | .fz xs => .ok xs.reverse st
    | .tk xs => .ok xs.reverse st
    | _ => .bad
  | .rng3 a b c, st => (evE ρ a st).bind fun x st => (evE ρ b st).bind fun y st => (evE ρ c st).bind fun z st => match x, y, z with
    | .int i, .int j, .int k => if 0 < k ∧ k < 1073741824 ∧ Builtin.Range.small i j k = true then .ok (rngS i k (Builtin.Range.rangeSize i j k).toNat) st else .bad
    | _, _, _ => .bad
  | .cel a, st => (evE ρ a st).bind fun x st => match x with
    | .ref n => (match st[n]? with
      | some (.lst ys) => .ok (.tup [.ref n, .int (ys.length : Nat)] :: celIt n ys.length) st
      | _ => .bad)
    | _ => .bad
end
end


/-! ### statements -/
inductive OutS where
  | next (ρ : Env) (st : Sto)
  | ret (d : D) (st : Sto)
  | brk (ρ : Env) (st : Sto)
  | cont (ρ : Env) (st : Sto)
  | exc (c : Nat) (fs : List (Nat × D)) (ρ : Env) (st : Sto)
  | bad
/-- an expression's outcome, then the rest of a statement -/
def Out.thenS {α : Type} (x : Out α) (ρ : Env) (f : α → Sto → OutS) : OutS :=
  match x with
  | .ok a st => f a st
  | .exc c fs st => .exc c fs ρ st
  | .bad => .bad
@[simp] theorem Out.thenS_ok {α : Type} {a : α} {st : Sto} {ρ : Env} {f : α → Sto → OutS} : (Out.ok a st).thenS ρ f = f a st := rfl
@[simp] theorem Out.thenS_bad {α : Type} {ρ : Env} {f : α → Sto → OutS} : (Out.bad : Out α).thenS ρ f = .bad := rfl
@[simp] theorem Out.thenS_exc {α : Type} {c : Nat} {fs : List (Nat × D)} {st : Sto} {ρ : Env} {f : α → Sto → OutS} : (Out.exc c fs st : Out α).thenS ρ f = .exc c fs ρ st := rfl
theorem Out.thenS_bind {α β : Type} {x : Out α} {f : α → Sto → Out β} {ρ : Env} {g : β → Sto → OutS} : (x.bind f).thenS ρ g = x.thenS ρ fun a s => (f a s).thenS ρ g := by
  cases x <;> rfl
/-- a block's rest -/
def OutS.seq (r : OutS) (f : Env → Sto → OutS) : OutS :=
  match r with
  | .next ρ st => f ρ st
  | r => r
@[simp] theorem OutS.seq_next {ρ : Env} {st : Sto} {f : Env → Sto → OutS} : (OutS.next ρ st).seq f = f ρ st := rfl
@[simp] theorem OutS.seq_ret {d : D} {st : Sto} {f : Env → Sto → OutS} : (OutS.ret d st).seq f = .ret d st := rfl
@[simp] theorem OutS.seq_brk {ρ : Env} {st : Sto} {f : Env → Sto → OutS} : (OutS.brk ρ st).seq f = .brk ρ st := rfl
@[simp] theorem OutS.seq_cont {ρ : Env} {st : Sto} {f : Env → Sto → OutS} : (OutS.cont ρ st).seq f = .cont ρ st := rfl
@[simp] theorem OutS.seq_exc {c : Nat} {fs : List (Nat × D)} {ρ : Env} {st : Sto} {f : Env → Sto → OutS} : (OutS.exc c fs ρ st).seq f = .exc c fs ρ st := rfl
@[simp] theorem OutS.seq_bad {f : Env → Sto → OutS} : (OutS.bad).seq f = .bad := rfl
/-- a loop's turn, then the further turns -/
def OutS.turn (r : OutS) (f : Env → Sto → OutS) : OutS :=
  match r with
  | .next ρ st => f ρ st
  | .cont ρ st => f ρ st
  | .brk ρ st => .next ρ st
  | r => r
@[simp] theorem OutS.turn_next {ρ : Env} {st : Sto} {f : Env → Sto → OutS} : (OutS.next ρ st).turn f = f ρ st := rfl
@[simp] theorem OutS.turn_ret {d : D} {st : Sto} {f : Env → Sto → OutS} : (OutS.ret d st).turn f = .ret d st := rfl
@[simp] theorem OutS.turn_brk {ρ : Env} {st : Sto} {f : Env → Sto → OutS} : (OutS.brk ρ st).turn f = .next ρ st := rfl
@[simp] theorem OutS.turn_cont {ρ : Env} {st : Sto} {f : Env → Sto → OutS} : (OutS.cont ρ st).turn f = f ρ st := rfl
@[simp] theorem OutS.turn_exc {c : Nat} {fs : List (Nat × D)} {ρ : Env} {st : Sto} {f : Env → Sto → OutS} : (OutS.exc c fs ρ st).turn f = .exc c fs ρ st := rfl
@[simp] theorem OutS.turn_bad {f : Env → Sto → OutS} : (OutS.bad).turn f = .bad := rfl
/-- behind a walk -/
def OutS.chk (r : OutS) (p : Sto → Bool) : OutS := match r with
  | .next ρ st => if p st = true then .next ρ st else .bad
  | r => r
def forGo (b : D → Env → Sto → OutS) : List D → Env → Sto → OutS
  | [], ρ, st => .next ρ st
  | x :: xs, ρ, st => (b x ρ st).turn (forGo b xs)
def whlN (c : Env → Sto → Out D) (b : Env → Sto → OutS) : Nat → Env → Sto → Option OutS
  | 0, _, _ => none
  | n + 1, ρ, st => match c ρ st with
    | .ok (.bl true) st1 => match b ρ st1 with
      | .next ρ' st' => whlN c b n ρ' st'
      | .cont ρ' st' => whlN c b n ρ' st'
      | .brk ρ' st' => some (.next ρ' st')
      | r => some r
    | .ok (.bl false) st1 => some (.next ρ st1)
    | .exc x fs st1 => some (.exc x fs ρ st1)
    | _ => some .bad
open Classical in
noncomputable def whlE (c : Env → Sto → Out D) (b : Env → Sto → OutS) (ρ : Env) (st : Sto) : OutS :=
  if h : ∃ n r, whlN c b n ρ st = some r then Classical.choose (Classical.choose_spec h) else .bad
theorem whlN_mono {c : Env → Sto → Out D} {b : Env → Sto → OutS} : ∀ {n : Nat} {ρ : Env} {st : Sto} {r : OutS}, whlN c b n ρ st = some r → whlN c b (n + 1) ρ st = some r
  | 0, _, _, _, h => by cases h
  | n + 1, ρ, st, r, h => by
    unfold whlN at h ⊢
    split at h
    · split at h
      · exact whlN_mono h
      · exact whlN_mono h
      · exact h
      · exact h
    · exact h
    · exact h
    · exact h
theorem whlN_le {c : Env → Sto → Out D} {b : Env → Sto → OutS} {n k : Nat} (hk : n ≤ k) {ρ : Env} {st : Sto} {r : OutS} (h : whlN c b n ρ st = some r) : whlN c b k ρ st = some r := by
  induction hk with
  | refl => exact h
  | step _ ih => exact whlN_mono ih
theorem whlE_of {c : Env → Sto → Out D} {b : Env → Sto → OutS} {n : Nat} {ρ : Env} {st : Sto} {r : OutS} (h : whlN c b n ρ st = some r) : whlE c b ρ st = r := by
  have hx : ∃ n r, whlN c b n ρ st = some r := ⟨n, r, h⟩
  unfold whlE
  rw [dif_pos hx]
  have h2 := Classical.choose_spec (Classical.choose_spec hx)
  have h3 := whlN_le (Nat.le_max_left _ n) h2
  rw [whlN_le (Nat.le_max_right _ n) h] at h3
  exact (Option.some.inj h3).symm
theorem whlE_bad {c : Env → Sto → Out D} {b : Env → Sto → OutS} {ρ : Env} {st : Sto} (h : whlE c b ρ st ≠ .bad) : ∃ n, whlN c b n ρ st = some (whlE c b ρ st) := by
  by_cases hx : ∃ n r, whlN c b n ρ st = some r
  · obtain ⟨n, r, e⟩ := hx
    exact ⟨n, by rw [whlE_of e]; exact e⟩
  · unfold whlE at h
    rw [dif_neg hx] at h
    exact absurd rfl h

/-- o[i] = v -/
def putD (fl : Nat) (x i v : D) (st : Sto) : Option Sto :=
  match x with
  | .ref n => match st[n]? with
    | some (.lst xs) => match i with
      | .int j => match ixN xs.length j with
        | some k => if wrOk fl n v = true then some (st.set n (.lst (xs.set k v))) else none
        | none => none
      | _ => none
    | some (.dk kvs) => match keyD i with
      | some k => if kvs.length < SZ ∧ wrOk fl n v = true then some (st.set n (.dk (dput kvs k v))) else none
      | none => none
    | some (.dt kvs) => match i with
      | .tup ds => match keysD ds with
        | some k => if kvs.length < SZ ∧ wrOk fl n v = true then some (st.set n (.dt (dput kvs k v))) else none
        | none => none
      | _ => none
    | _ => none
  | _ => none

/-- an except suite's expressions: c is the class of the error -/
def evU (G : Prog) (c : Nat) (ρ : Env) : Su → Option D
  | .non => some .non
  | .bool b => some (.bl b)
  | .int i => some (.int i)
  | .str x => some (.str x)
  | .var i => match ρ[i]? with
    | some (some d) => some d
    | _ => none
  | .tup2 a b => match evU G c ρ a, evU G c ρ b with
    | some x, some y => some (.tup [x, y])
    | _, _ => none
  | .nt a => match evU G c ρ a with
    | some (.bl b) => some (.bl (!b))
    | _ => none
  | .andS a b => match evU G c ρ a with
    | some (.bl true) => evU G c ρ b
    | some (.bl false) => some (.bl false)
    | _ => none
  | .orS a b => match evU G c ρ a with
    | some (.bl true) => some (.bl true)
    | some (.bl false) => evU G c ρ b
    | _ => none
  | .isE c' => some (.bl (subB G c c'))
def evSh (G : Prog) (c : Nat) (ρ : Env) (st : Sto) : Sh → OutS
  | .ret e => match evU G c ρ e with
    | some d => .ret d st
    | none => .bad
  | .retN => .ret .non st
  | .ifR e a r => match evU G c ρ e with
    | some (.bl true) => (match evU G c ρ a with
      | some d => .ret d st
      | none => .bad)
    | some (.bl false) => evSh G c ρ st r
    | _ => .bad
def evH (G : Prog) : Hds → Nat → List (Nat × D) → Env → Sto → OutS
  | .nil, c, fs, ρ, st => .exc c fs ρ st
  | .cons c' n s r, c, fs, ρ, st => if subB G c c' = true then (match n with | some i => if i < ρ.length then evSh G c (ρ.set i none) st s else .bad | none => evSh G c ρ st s) else evH G r c fs ρ st
section
variable (G : Prog) (C : Nat → List D → Sto → Out D) (fl : Nat)
mutual
noncomputable def evS : Sm → Env → Sto → OutS
  | .set i e, ρ, st => (evE G C fl ρ e st).thenS ρ fun d st => .next (ρ.set i (some d)) st
  | .sets is e, ρ, st => (evE G C fl ρ e st).thenS ρ fun d st => match asg ρ (.many is) d with
    | some ρ' => .next ρ' st
    | none => .bad
  | .put o i e, ρ, st => (evE G C fl ρ e st).thenS ρ fun v st => (evE G C fl ρ o st).thenS ρ fun x st => (evE G C fl ρ i st).thenS ρ fun y st => match putD fl x y v st with
    | some st' => .next ρ st'
    | none => .bad
  | .fld _ _ _, _, _ => .bad
  | .expr e, ρ, st => (evE G C fl ρ e st).thenS ρ fun _ st => .next ρ st
  | .doc, ρ, st => .next ρ st
  | .ret e, ρ, st => (evE G C fl ρ e st).thenS ρ fun d st => .ret d st
  | .retN, _, st => .ret .non st
  | .ifS c a b, ρ, st => (evE G C fl ρ c st).thenS ρ fun x st => match x with
    | .bl true => evSs a ρ st
    | .bl false => evSs b ρ st
    | _ => .bad
  | .forS tg src b, ρ, st => (evI G C fl ρ src st).thenS ρ fun xs st => (forGo (fun x ρ st => match srcRes src st x with
    | some x => (match asg ρ tg x with
      | some ρ' => evSs b ρ' st
      | none => .bad)
    | none => .bad) (srcIts src xs) ρ st).chk (srcEnd src xs)
  | .whl c b, ρ, st => whlE (fun ρ st => evE G C fl ρ c st) (fun ρ st => evSs b ρ st) ρ st
  | .brk, ρ, st => .brk ρ st
  | .cont, ρ, st => .cont ρ st
  | .raise c _, ρ, st => .exc c [] ρ st
  | .raiseI c e, ρ, st => (evE G C fl ρ e st).thenS ρ fun d st => match d with
    | .int i => .exc c [(0, .int i)] ρ st
    | _ => .bad
  | .tryS b hs, ρ, st => match evSs b ρ st with
    | .exc c fs ρ' st' => evH G hs c fs ρ' st'
    | r => r
noncomputable def evSs : Sms → Env → Sto → OutS
  | .nil, ρ, st => .next ρ st
  | .cons a r, ρ, st => (evS a ρ st).seq fun ρ st => evSs r ρ st
end
end

/-- what a frame's cell becomes when it is left -/
def unbox1 (fl : Nat) (st : Sto) (d : D) : Option D :=
  match d with
  | .ref n => if n < fl then some (.ref n) else match st[n]? with
    | some c => if isC c = true ∧ c.lo 0 = true then some c else none
    | none => none
  | d => if d.lo 0 = true then some d else none
def unboxs (fl : Nat) (st : Sto) : List D → Option (List D)
  | [] => some []
  | d :: ds => match unbox1 fl st d, unboxs fl st ds with
    | some a, some as => some (a :: as)
    | _, _ => none
def unbox (fl : Nat) (st : Sto) (d : D) : Option D :=
  match d with
  | .ref n => if n < fl then some (.ref n) else match st[n]? with
    | some c => if isC c = true ∧ c.lo 0 = true then some c else none
    | none => none
  | d => if d.lo 0 = true then some d else match d with
    | .tup ds => (unboxs fl st ds).map .tup
    | _ => none
def fin (pop : Bool) (fl : Nat) (d : D) (st : Sto) : Out D :=
  if pop = true then match unbox fl st d with
    | some d' => .ok d' (st.take fl)
    | none => .bad
  else .ok d st
/-- a call of def f, at most k deep; fl: the caller's floor -/
noncomputable def run (G : Prog) : Nat → Nat → Nat → List D → Sto → Out D
  | 0, _, _, _, _ => .bad
  | k + 1, fl, f, ds, st => match G.fns[f]? with
    | none => .bad
    | some F =>
      if ds.length = F.np then
        match evSs G (run G k (if F.pop = true then st.length else fl)) (if F.pop = true then st.length else fl) F.body (ds.map some ++ List.replicate (F.N.length - F.np) none) st with
        | .ret d st' => fin F.pop st.length d st'
        | .next _ st' => fin F.pop st.length .non st'
        | .exc c fs _ st' => .exc c fs (if F.pop = true then st'.take st.length else st')
        | _ => .bad
      else .bad
end Ev

set_option Elab.async false
set_option linter.all false
set_option maxRecDepth 100000
/-! Ev, part 2: how data lies in the abstract heap. -/
namespace Ev
open PySem L2 PySem.Spec
open PyProof.Rows hiding St

/-- where the cells lie; what is hidden (being made) -/
structure Mp where
  c : List Addr
  h : List Addr
def Mp.live (m : Mp) (p : Addr) : Prop := p ∈ m.c ∨ p ∈ m.h
/-- a tuple of the written part -/
def KTup (K : PySem.W.Frag) (p : Addr) (vs : List V) : Prop :=
  ∃ (o : Obj) (its : Array Value) (n : Nat), K.lookup p = some o ∧ o.cls = .type "tuple" ∧ o.data = .seq its n ∧ its.size ≤ sizeLine ∧ Vals vs its.toList

/-- a list of the written part -/
def KLst (K : PySem.W.Frag) (p : Addr) (vs : List V) : Prop :=
  ∃ (o : Obj) (its : Array Value) (n : Nat), K.lookup p = some o ∧ o.cls = .type "list" ∧ o.dict = none ∧ o.data = .seq its n ∧ its.size ≤ sizeLine ∧ Vals vs its.toList

section
variable (K : PySem.W.Frag) (mg : Str → Option Value) (G : Prog) (m : Mp) (H : Hp)
mutual
inductive Rep : D → V → Prop
  | non : Rep .non .non
  | bl (b : Bool) : Rep (.bl b) (.bl b)
  | int (i : Int) : Rep (.int i) (.int i)
  | str {x : Str} : (x.cps.all fun c => decide (c < 0x110000)) = true → Rep (.str x) (.str x)
  | tup {p vs ds} : ¬ m.live p → H p = some (.tup vs) → Reps ds vs → Rep (.tup ds) (.ref p)
  | tk {p vs ds} : KTup K p vs → Reps ds vs → Rep (.tk ds) (.ref p)
  | lst {p vs ds} : ¬ m.live p → H p = some (.lst vs) → Reps ds vs → Rep (.lst ds) (.ref p)
  | fz {p o vs ds} : ¬ m.live p → H p = some (.frz o (.lst vs)) → Reps ds vs → Rep (.fz ds) (.ref p)
  | fzK {p vs ds} : KLst K p vs → Reps ds vs → Rep (.fz ds) (.ref p)
  | dk {p kvs ds} : ¬ m.live p → H p = some (.dK kvs) → RepK ds kvs → Rep (.dk ds) (.ref p)
  | dt {p kvs ds} : ¬ m.live p → H p = some (.dT kvs) → RepT ds kvs → Rep (.dt ds) (.ref p)
  | ref {n p} : m.c[n]? = some p → Rep (.ref n) (.ref p)
  | fn {f F a} : G.fns[f]? = some F → mg F.name = some (.ref a) → Rep (.fn f) (.ref a)
  | ty (n : String) : Rep (.ty n) (.ty n)
inductive Reps : List D → List V → Prop
  | nil : Reps [] []
  | cons {d v ds vs} : Rep d v → Reps ds vs → Reps (d :: ds) (v :: vs)
inductive RepK : List (Key × D) → List (Key × V) → Prop
  | nil : RepK [] []
  | cons {k d v r r'} : Rep d v → RepK r r' → RepK ((k, d) :: r) ((k, v) :: r')
inductive RepT : List (List Key × D) → List (List Key × V) → Prop
  | nil : RepT [] []
  | cons {k d v r r'} : Rep d v → RepT r r' → RepT ((k, d) :: r) ((k, v) :: r')
end
end

/-- what a cell holds, and the object there -/
inductive CellR (K : PySem.W.Frag) (mg : Str → Option Value) (G : Prog) (m : Mp) (H : Hp) : D → HO → Prop
  | lst {ds vs} : Reps K mg G m H ds vs → CellR K mg G m H (.lst ds) (.lst vs)
  | dk {ds kvs} : RepK K mg G m H ds kvs → CellR K mg G m H (.dk ds) (.dK kvs)
  | dt {ds kvs} : RepT K mg G m H ds kvs → CellR K mg G m H (.dt ds) (.dT kvs)

/-- from (m, H) to (m', H'): what is not a cell stays, no cell is lost, what is hidden is not touched -/
structure Ext (m : Mp) (H : Hp) (m' : Mp) (H' : Hp) : Prop where
  pre : ∀ (n : Nat) p, m.c[n]? = some p → m'.c[n]? = some p
  old : ∀ p o, H p = some o → ¬ m.live p → H' p = some o ∧ ¬ m'.live p
  hid : m'.h = m.h
  hkeep : ∀ p, p ∈ m.h → H' p = H p

/-- what Rep leans on -/
structure Grow (m : Mp) (H : Hp) (m' : Mp) (H' : Hp) : Prop where
  pre : ∀ (n : Nat) p, m.c[n]? = some p → m'.c[n]? = some p
  old : ∀ p o, H p = some o → ¬ m.live p → H' p = some o ∧ ¬ m'.live p
theorem Ext.grow {m H m' H'} (x : Ext m H m' H') : Grow m H m' H' := ⟨x.pre, x.old⟩
theorem Grow.trans {m H m' H' m2 H2} (a : Grow m H m' H') (b : Grow m' H' m2 H2) : Grow m H m2 H2 :=
  ⟨fun n p e => b.pre n p (a.pre n p e), fun p o e n => let ⟨e1, n1⟩ := a.old p o e n; b.old p o e1 n1⟩

structure Rel (K : PySem.W.Frag) (mg : Str → Option Value) (G : Prog) (fls : List Nat) (st : Sto) (m : Mp) (H : Hp) : Prop where
  len : m.c.length = st.length
  nd : m.c.Nodup
  cell : ∀ (n : Nat) c p, st[n]? = some c → m.c[n]? = some p → ∃ o, H p = some o ∧ CellR K mg G m H c o
  hid : ∀ p, p ∈ m.h → p ∉ m.c ∧ ∃ o, H p = some o
  clean : ∀ f ∈ fls, ∀ (n : Nat) c, n < f → st[n]? = some c → c.lo f = true
  fle : ∀ f ∈ fls, f ≤ st.length

def EnvR (K : PySem.W.Frag) (mg : Str → Option Value) (G : Prog) (m : Mp) (H : Hp) (ρ : Env) (σ : St) : Prop :=
  ρ.length = σ.length ∧ ∀ (i : Nat) d, ρ[i]? = some (some d) → ∃ v, σ[i]? = some (some v) ∧ Rep K mg G m H d v

section
variable {K : PySem.W.Frag} {mg : Str → Option Value} {G : Prog} {m m' m2 : Mp} {H H' H2 : Hp}

theorem Ext.refl : Ext m H m H := ⟨fun _ _ e => e, fun _ _ e n => ⟨e, n⟩, rfl, fun _ _ => rfl⟩
theorem Ext.trans (a : Ext m H m' H') (b : Ext m' H' m2 H2) : Ext m H m2 H2 :=
  ⟨fun n p e => b.pre n p (a.pre n p e), fun p o e n => let ⟨e1, n1⟩ := a.old p o e n; b.old p o e1 n1, b.hid.trans a.hid, fun p hp => (b.hkeep p (by rw [a.hid]; exact hp)).trans (a.hkeep p hp)⟩

mutual
theorem Rep.gr (x : Grow m H m' H') : ∀ {d : D} {v : V}, Rep K mg G m H d v → Rep K mg G m' H' d v
  | _, _, .non => .non
  | _, _, .bl b => .bl b
  | _, _, .int i => .int i
  | _, _, .str h => .str h
  | _, _, .tup n e r => .tup (x.old _ _ e n).2 (x.old _ _ e n).1 (Reps.gr x r)
  | _, _, .tk e r => .tk e (Reps.gr x r)
  | _, _, .lst n e r => .lst (x.old _ _ e n).2 (x.old _ _ e n).1 (Reps.gr x r)
  | _, _, .fz n e r => .fz (x.old _ _ e n).2 (x.old _ _ e n).1 (Reps.gr x r)
  | _, _, .fzK e r => .fzK e (Reps.gr x r)
  | _, _, .dk n e r => .dk (x.old _ _ e n).2 (x.old _ _ e n).1 (RepK.gr x r)
  | _, _, .dt n e r => .dt (x.old _ _ e n).2 (x.old _ _ e n).1 (RepT.gr x r)
  | _, _, .ref e => .ref (x.pre _ _ e)
  | _, _, .fn e q => .fn e q
  | _, _, .ty n => .ty n
theorem Reps.gr (x : Grow m H m' H') : ∀ {d : List D} {v : List V}, Reps K mg G m H d v → Reps K mg G m' H' d v
  | _, _, .nil => .nil
  | _, _, .cons r t => .cons (Rep.gr x r) (Reps.gr x t)
theorem RepK.gr (x : Grow m H m' H') : ∀ {d : List (Key × D)} {v : List (Key × V)}, RepK K mg G m H d v → RepK K mg G m' H' d v
  | _, _, .nil => .nil
  | _, _, .cons r t => .cons (Rep.gr x r) (RepK.gr x t)
theorem RepT.gr (x : Grow m H m' H') : ∀ {d : List (List Key × D)} {v : List (List Key × V)}, RepT K mg G m H d v → RepT K mg G m' H' d v
  | _, _, .nil => .nil
  | _, _, .cons r t => .cons (Rep.gr x r) (RepT.gr x t)
end
theorem CellR.gr (x : Grow m H m' H') {d : D} {o : HO} (r : CellR K mg G m H d o) : CellR K mg G m' H' d o := by
  cases r with
  | lst r => exact .lst (r.gr x)
  | dk r => exact .dk (r.gr x)
  | dt r => exact .dt (r.gr x)
theorem EnvR.gr {ρ : Env} {σ : St} (x : Grow m H m' H') (r : EnvR K mg G m H ρ σ) : EnvR K mg G m' H' ρ σ :=
  ⟨r.1, fun i d e => let ⟨v, h, q⟩ := r.2 i d e; ⟨v, h, q.gr x⟩⟩

theorem Rep.ext (x : Ext m H m' H') {d : D} {v : V} (r : Rep K mg G m H d v) : Rep K mg G m' H' d v := r.gr x.grow
theorem Reps.ext (x : Ext m H m' H') {d : List D} {v : List V} (r : Reps K mg G m H d v) : Reps K mg G m' H' d v := r.gr x.grow
theorem RepK.ext (x : Ext m H m' H') {d : List (Key × D)} {v : List (Key × V)} (r : RepK K mg G m H d v) : RepK K mg G m' H' d v := r.gr x.grow
theorem RepT.ext (x : Ext m H m' H') {d : List (List Key × D)} {v : List (List Key × V)} (r : RepT K mg G m H d v) : RepT K mg G m' H' d v := r.gr x.grow
theorem CellR.ext (x : Ext m H m' H') {d : D} {o : HO} (r : CellR K mg G m H d o) : CellR K mg G m' H' d o := r.gr x.grow
theorem EnvR.ext {ρ : Env} {σ : St} (x : Ext m H m' H') (r : EnvR K mg G m H ρ σ) : EnvR K mg G m' H' ρ σ := r.gr x.grow

theorem Reps.length {ds : List D} {vs : List V} (r : Reps K mg G m H ds vs) : ds.length = vs.length := by
  induction ds generalizing vs with
  | nil => cases r; rfl
  | cons d ds ih => cases r with | cons _ t => simp [ih t]
theorem Reps.get {ds : List D} {vs : List V} (r : Reps K mg G m H ds vs) {i : Nat} {d : D} (e : ds[i]? = some d) : ∃ v, vs[i]? = some v ∧ Rep K mg G m H d v := by
  induction ds generalizing vs i with
  | nil => simp at e
  | cons d0 ds ih =>
    cases r with
    | cons a t =>
      cases i with
      | zero => simp at e; subst e; exact ⟨_, rfl, a⟩
      | succ i => simpa using ih t (by simpa using e)
theorem Reps.get' {ds : List D} {vs : List V} (r : Reps K mg G m H ds vs) {i : Nat} {v : V} (e : vs[i]? = some v) : ∃ d, ds[i]? = some d ∧ Rep K mg G m H d v := by
  induction ds generalizing vs i with
  | nil => cases r; simp at e
  | cons d0 ds ih =>
    cases r with
    | cons a t =>
      cases i with
      | zero => simp at e; subst e; exact ⟨_, rfl, a⟩
      | succ i => simpa using ih t (by simpa using e)
theorem Reps.app {ds ds' : List D} {vs vs' : List V} (r : Reps K mg G m H ds vs) (r' : Reps K mg G m H ds' vs') : Reps K mg G m H (ds ++ ds') (vs ++ vs') := by
  induction ds generalizing vs with
  | nil => cases r; exact r'
  | cons d ds ih => cases r with | cons a t => exact .cons a (ih t)
theorem Reps.take {ds : List D} {vs : List V} (r : Reps K mg G m H ds vs) : ∀ n : Nat, Reps K mg G m H (ds.take n) (vs.take n) := by
  induction ds generalizing vs with
  | nil => cases r; intro n; simp; exact .nil
  | cons d ds ih =>
    cases r with
    | cons a t =>
      intro n
      cases n with
      | zero => exact .nil
      | succ n => exact .cons a (ih t n)
theorem Reps.drop {ds : List D} {vs : List V} (r : Reps K mg G m H ds vs) : ∀ n : Nat, Reps K mg G m H (ds.drop n) (vs.drop n) := by
  induction ds generalizing vs with
  | nil => cases r; intro n; simp; exact .nil
  | cons d ds ih =>
    cases r with
    | cons a t =>
      intro n
      cases n with
      | zero => exact .cons a t
      | succ n => exact ih t n
theorem Reps.set {ds : List D} {vs : List V} (r : Reps K mg G m H ds vs) {d : D} {v : V} (q : Rep K mg G m H d v) : ∀ n : Nat, Reps K mg G m H (ds.set n d) (vs.set n v) := by
  induction ds generalizing vs with
  | nil => cases r; intro n; simp; exact .nil
  | cons d0 ds ih =>
    cases r with
    | cons a t =>
      intro n
      cases n with
      | zero => exact .cons q t
      | succ n => exact .cons a (ih t n)
theorem Reps.rep {ds : List D} {vs : List V} (r : Reps K mg G m H ds vs) : ∀ n : Nat, Reps K mg G m H (List.replicate n ds).flatten (List.replicate n vs).flatten
  | 0 => .nil
  | n + 1 => by
    simp only [List.replicate_succ, List.flatten_cons]
    exact r.app (Reps.rep r n)
theorem Reps.ints : ∀ (ns : List Int), Reps K mg G m H (ns.map D.int) (ns.map V.int)
  | [] => .nil
  | n :: r => .cons (.int n) (Reps.ints r)

/-- a cell's address is tracked -/
theorem Rel.at {fls st} (R : Rel K mg G fls st m H) {p : Addr} (h : p ∈ m.c) : ∃ (n : Nat) (c : D) (o : HO), st[n]? = some c ∧ m.c[n]? = some p ∧ H p = some o ∧ CellR K mg G m H c o := by
  obtain ⟨n, hn, e⟩ := List.getElem_of_mem h
  have hn' : n < st.length := by rw [← R.len]; exact hn
  have e1 : m.c[n]? = some p := by rw [List.getElem?_eq_getElem hn, e]
  obtain ⟨o, a, b⟩ := R.cell n _ p (List.getElem?_eq_getElem hn') e1
  exact ⟨n, _, o, List.getElem?_eq_getElem hn', e1, a, b⟩
theorem Rel.notin {fls st} (R : Rel K mg G fls st m H) {p : Addr} (h : H p = none) : ¬ m.live p := fun q => by
  rcases q with q | q
  · obtain ⟨_, _, o, _, _, e, _⟩ := R.at q
    rw [h] at e; cases e
  · obtain ⟨_, o, e⟩ := R.hid p q
    rw [h] at e; cases e
/-- a new object beside the cells -/
theorem Ext.new {fls st} (R : Rel K mg G fls st m H) {p : Addr} (o : HO) (h : H p = none) : Ext m H m (upd H p o) :=
  ⟨fun _ _ e => e, fun q u e n => ⟨by rw [upd_ne (ne_of_none e h)]; exact e, n⟩, rfl, fun q hq => by
    obtain ⟨_, u, e⟩ := R.hid q hq
    rw [upd_ne (ne_of_none e h)]⟩
theorem Rel.new {fls st} (R : Rel K mg G fls st m H) {p : Addr} (o : HO) (h : H p = none) : Rel K mg G fls st m (upd H p o) :=
  ⟨R.len, R.nd, fun n c q e1 e2 => by
    obtain ⟨u, a, b⟩ := R.cell n c q e1 e2
    exact ⟨u, by rw [upd_ne (ne_of_none a h)]; exact a, b.ext (Ext.new R o h)⟩, fun q hq => by
    obtain ⟨a, u, e⟩ := R.hid q hq
    exact ⟨a, u, by rw [upd_ne (ne_of_none e h)]; exact e⟩, R.clean, R.fle⟩

/-! ### what is behind an operation -/
/-- Q holds of each value that is d, behind a growth -/
def QV (K : PySem.W.Frag) (mg : Str → Option Value) (G : Prog) (fls : List Nat) (st : Sto) (m : Mp) (H : Hp) (d : D) (Q : VK) : Prop :=
  ∀ v m' H', Ext m H m' H' → Rel K mg G fls st m' H' → Rep K mg G m' H' d v → Q v H'
/-- Q holds of each new object that holds d, which nothing else knows -/
def QF (K : PySem.W.Frag) (mg : Str → Option Value) (G : Prog) (fls : List Nat) (st : Sto) (m : Mp) (H : Hp) (d : D) (Q : VK) : Prop :=
  ∀ p o m' Hm, Ext m H m' Hm → Rel K mg G fls st m' Hm → Hm p = none → CellR K mg G m' Hm d o → Q (.ref p) (upd Hm p o)
theorem QV.fresh {fls st d Q} (q : QV K mg G fls st m H d Q) : QF K mg G fls st m H d Q := fun p o m' Hm x R n c => by
  have x2 := Ext.new R o n
  refine q (.ref p) m' _ (x.trans x2) (R.new o n) ?_
  have hp : ¬ m'.live p := R.notin n
  cases c with
  | lst r => exact .lst hp upd_same (r.ext x2)
  | dk r => exact .dk hp upd_same (r.ext x2)
  | dt r => exact .dt hp upd_same (r.ext x2)
theorem QV.here {fls st d Q} {v : V} (q : QV K mg G fls st m H d Q) (R : Rel K mg G fls st m H) (r : Rep K mg G m H d v) : Q v H := q v m H Ext.refl R r
theorem QV.tup {fls st Q} {ds : List D} {vs : List V} (q : QV K mg G fls st m H (.tup ds) Q) (R : Rel K mg G fls st m H) (r : Reps K mg G m H ds vs) {p : Addr} (n : H p = none) : Q (.ref p) (upd H p (.tup vs)) := by
  have x := Ext.new R (.tup vs) n
  exact q _ m _ x (R.new _ n) (.tup (R.notin n) upd_same (r.ext x))
theorem QF.lst {fls st Q} {ds : List D} {vs : List V} (q : QF K mg G fls st m H (.lst ds) Q) (R : Rel K mg G fls st m H) (r : Reps K mg G m H ds vs) {p : Addr} (n : H p = none) : Q (.ref p) (upd H p (.lst vs)) :=
  q p _ m H Ext.refl R n (.lst r)

/-- a list, frozen or a cell's, as it is tracked -/
theorem Rel.lst {fls st} (R : Rel K mg G fls st m H) {d : D} {v : V} {ds : List D} (r : Rep K mg G m H d v) (e : view st d = .lst ds) : ∃ p vs, v = .ref p ∧ H p = some (.lst vs) ∧ Reps K mg G m H ds vs := by
  cases r with
  | lst n h r => simp [view] at e; subst e; exact ⟨_, _, rfl, h, r⟩
  | @ref n p h =>
    have hn : n < st.length := by rw [← R.len]; exact (List.getElem?_eq_some_iff.mp h).1
    obtain ⟨o, a, b⟩ := R.cell n _ p (List.getElem?_eq_getElem hn) h
    simp [view, hn] at e
    rw [e] at b
    cases b with
    | lst r => exact ⟨p, _, rfl, a, r⟩
  | _ => simp [view] at e
theorem Rel.tup {fls st} (R : Rel K mg G fls st m H) {d : D} {v : V} {ds : List D} (r : Rep K mg G m H d v) (e : view st d = .tup ds) : ∃ p vs, v = .ref p ∧ H p = some (.tup vs) ∧ Reps K mg G m H ds vs := by
  cases r with
  | tup n h r => simp [view] at e; subst e; exact ⟨_, _, rfl, h, r⟩
  | @ref n p h =>
    have hn : n < st.length := by rw [← R.len]; exact (List.getElem?_eq_some_iff.mp h).1
    obtain ⟨o, a, b⟩ := R.cell n _ p (List.getElem?_eq_getElem hn) h
    simp [view, hn] at e
    rw [e] at b
    cases b
  | _ => simp [view] at e
theorem Rel.tk {fls st} (R : Rel K mg G fls st m H) {d : D} {v : V} {ds : List D} (r : Rep K mg G m H d v) (e : view st d = .tk ds) : ∃ p vs, v = .ref p ∧ SqT K H p vs ∧ Reps K mg G m H ds vs := by
  cases r with
  | tk h r => simp [view] at e; subst e; exact ⟨_, _, rfl, .inr h, r⟩
  | @ref n p h =>
    have hn : n < st.length := by rw [← R.len]; exact (List.getElem?_eq_some_iff.mp h).1
    obtain ⟨o, a, b⟩ := R.cell n _ p (List.getElem?_eq_getElem hn) h
    simp [view, hn] at e
    rw [e] at b
    cases b
  | _ => simp [view] at e
/-- a tuple stands for itself -/
theorem Rel.tupS {fls st} (R : Rel K mg G fls st m H) {d : D} {v : V} {ds : List D} (r : Rep K mg G m H d v) (e : view st d = .tup ds) : d = .tup ds := by
  cases r with
  | tup n h r => simpa [view] using e
  | @ref n p h =>
    have hn : n < st.length := by rw [← R.len]; exact (List.getElem?_eq_some_iff.mp h).1
    obtain ⟨o, a, b⟩ := R.cell n _ p (List.getElem?_eq_getElem hn) h
    simp [view, hn] at e
    rw [e] at b
    cases b
  | _ => simp [view] at e
theorem Rel.dk {fls st} (R : Rel K mg G fls st m H) {d : D} {v : V} {ds : List (Key × D)} (r : Rep K mg G m H d v) (e : view st d = .dk ds) : ∃ p kvs, v = .ref p ∧ H p = some (.dK kvs) ∧ RepK K mg G m H ds kvs := by
  cases r with
  | dk n h r => simp [view] at e; subst e; exact ⟨_, _, rfl, h, r⟩
  | @ref n p h =>
    have hn : n < st.length := by rw [← R.len]; exact (List.getElem?_eq_some_iff.mp h).1
    obtain ⟨o, a, b⟩ := R.cell n _ p (List.getElem?_eq_getElem hn) h
    simp [view, hn] at e
    rw [e] at b
    cases b with
    | dk r => exact ⟨p, _, rfl, a, r⟩
  | _ => simp [view] at e
theorem Rel.dt {fls st} (R : Rel K mg G fls st m H) {d : D} {v : V} {ds : List (List Key × D)} (r : Rep K mg G m H d v) (e : view st d = .dt ds) : ∃ p kvs, v = .ref p ∧ H p = some (.dT kvs) ∧ RepT K mg G m H ds kvs := by
  cases r with
  | dt n h r => simp [view] at e; subst e; exact ⟨_, _, rfl, h, r⟩
  | @ref n p h =>
    have hn : n < st.length := by rw [← R.len]; exact (List.getElem?_eq_some_iff.mp h).1
    obtain ⟨o, a, b⟩ := R.cell n _ p (List.getElem?_eq_getElem hn) h
    simp [view, hn] at e
    rw [e] at b
    cases b with
    | dt r => exact ⟨p, _, rfl, a, r⟩
  | _ => simp [view] at e
theorem Rel.fz {fls st} (R : Rel K mg G fls st m H) {d : D} {v : V} {ds : List D} (r : Rep K mg G m H d v) (e : view st d = .fz ds) : ∃ p vs, v = .ref p ∧ SqL K H p vs ∧ Reps K mg G m H ds vs := by
  cases r with
  | fz n h r => simp [view] at e; subst e; exact ⟨_, _, rfl, .inl (.inr ⟨_, h⟩), r⟩
  | fzK h r => simp [view] at e; subst e; exact ⟨_, _, rfl, .inr h, r⟩
  | @ref n p h =>
    have hn : n < st.length := by rw [← R.len]; exact (List.getElem?_eq_some_iff.mp h).1
    obtain ⟨o, a, b⟩ := R.cell n _ p (List.getElem?_eq_getElem hn) h
    simp [view, hn] at e
    rw [e] at b
    cases b
  | _ => simp [view] at e
/-- ints, bools, texts: not in cells -/
theorem Rel.int {fls st} (R : Rel K mg G fls st m H) {d : D} {v : V} {i : Int} (r : Rep K mg G m H d v) (e : view st d = .int i) : v = .int i ∧ d = .int i := by
  cases r with
  | int j => simp [view] at e; subst e; exact ⟨rfl, rfl⟩
  | @ref n p h =>
    have hn : n < st.length := by rw [← R.len]; exact (List.getElem?_eq_some_iff.mp h).1
    obtain ⟨o, a, b⟩ := R.cell n _ p (List.getElem?_eq_getElem hn) h
    simp [view, hn] at e
    rw [e] at b
    cases b
  | _ => simp [view] at e
theorem Rel.str {fls st} (R : Rel K mg G fls st m H) {d : D} {v : V} {i : Str} (r : Rep K mg G m H d v) (e : view st d = .str i) : v = .str i ∧ d = .str i ∧ (i.cps.all fun c => decide (c < 0x110000)) = true := by
  cases r with
  | str j => simp [view] at e; subst e; exact ⟨rfl, rfl, j⟩
  | @ref n p h =>
    have hn : n < st.length := by rw [← R.len]; exact (List.getElem?_eq_some_iff.mp h).1
    obtain ⟨o, a, b⟩ := R.cell n _ p (List.getElem?_eq_getElem hn) h
    simp [view, hn] at e
    rw [e] at b
    cases b
  | _ => simp [view] at e
end
end Ev

set_option Elab.async false
set_option linter.all false
set_option maxRecDepth 100000
set_option maxHeartbeats 4000000
namespace Ev
open PySem L2 PySem.Spec
open PyProof.Rows hiding St
/-- t * 1 is t -/
theorem tuple_mul1 (l : Addr) (items : Array Value) (n : Nat) (sl : Array (Option Value)) (dd : Option Addr) (u : Tok) :
    Meets (Builtin.«tuple.__mul__» ⟨[.ref l, .int 1 u], []⟩) (fun _ R s => s.heap.get? l = some { cls := .type "tuple", dict := dd, data := .seq items n, slots := sl } ∧
      R (.ok (.ret (Value.ref l))) s) :=
  .of_wp fun prog w A R s h => by
    obtain ⟨hp, g, d, tk, os⟩ := s
    obtain ⟨hl, h⟩ := h
    have f1 := AutoSeq1.idx_int
    wp_walk using wpAny_loadPart' hl
    repeat (first
      | (refine wpAny_ite_false (decide_eq_false (by decide)) ?_; wp_walk using wpAny_loadPart' hl)
      | (refine wpAny_ite_true (decide_eq_true (by simp)) ?_; wp_walk using wpAny_loadPart' hl))
    exact ⟨_, rfl, h⟩
end Ev

set_option Elab.async false
set_option linter.all false
set_option maxRecDepth 100000
set_option maxHeartbeats 4000000
/-! Ev, part 3: operators, comparisons, subscripts, built-ins: by values. -/
namespace Ev
open PySem L2 PySem.Spec
open PyProof.Rows hiding St

abbrev StrOk (x : Str) : Prop := (x.cps.all fun c => decide (c < 0x110000)) = true
theorem str_app {x y : Str} (a : StrOk x) (b : StrOk y) : StrOk (x ++ y) := by
  show ((x.cps ++ y.cps).all _) = true
  rw [Array.all_append, a, b]; rfl
theorem SZ_eq : SZ = sizeLine := by rw [sizeLine_eq]; rfl

def QD (K : PySem.W.Frag) (mg : Str → Option Value) (G : Prog) (fls : List Nat) (st : Sto) (m : Mp) (H : Hp) (d : D) (Q : VK) : Prop :=
  match d with
  | .lst _ => QF K mg G fls st m H d Q
  | .dk _ => QF K mg G fls st m H d Q
  | .dt _ => QF K mg G fls st m H d Q
  | _ => QV K mg G fls st m H d Q
section
variable {K : PySem.W.Frag} {mg : Str → Option Value} {G : Prog} {fls : List Nat} {st : Sto} {m : Mp} {H : Hp} {Q : VK} {d : D}
theorem QV.qd (q : QV K mg G fls st m H d Q) : QD K mg G fls st m H d Q := by
  cases d <;> first | exact q.fresh | exact q
end

/-- t * k, also once -/
def rRep1 (K : PySem.W.Frag) : R2 := fun x y H Q => ∃ l k xs, x = .ref l ∧ y = .int k ∧ SqT K H l xs ∧ xs ≠ [] ∧ 1 ≤ k ∧ k ≤ 1000 ∧ xs.length ≤ 1000 ∧ (k = 1 → Q (.ref l) H) ∧ ∀ p, H p = none → Q (.ref p) (upd H p (.tup (List.replicate k.toNat xs).flatten))
theorem op_rep1 {X : Cx} : OpR X (binaryOp .Mult) (rRep1 X.K) := by
  intro pins s σ H x y v u Q I rx ry h
  obtain ⟨l, k, xs, rfl, rfl, hT, hne, h1, h2, hz, q1, q⟩ := h
  by_cases hk : k = 1
  · subst hk
    cases rx
    obtain ⟨t, rfl⟩ := ry
    obtain ⟨its, r, ⟨⟨cls, dd, data, sl⟩, ho, hc, n, hd⟩, hs⟩ := I.tuple hT
    simp only at hc hd
    subst hc hd
    refine wpAny_binaryOp_repeat_ref (T := "tuple") (U := "int") (by decide) ⟨_, ho, rfl⟩ (fun s' => typeIs_int s' 1 t) noFill_tuple_mul F.fills_int_mul F.slot_int_rmul repeat_tuple F.slot_int_index.lookup
      (call_meets F.slot_int_rmul (typeIs_int s 1 t) F.entry_int_rmul (F.args_int_rmul_2 _ _) (int_rmul_tuple 1 t l its.toArray n dd sl)
        ⟨ho, rfl, ⟨_, ho, rfl⟩, call_meets F.slot_tuple_mul ⟨_, ho, rfl⟩ F.entry_tuple_mul (F.args_tuple_mul_2 _ _) (tuple_mul1 l its.toArray n sl dd t) ⟨ho, ?_⟩⟩)
    exact ⟨.ref l, H, I, rfl, q1 rfl⟩
  · exact op_repT pins s σ H _ _ v u Q I rx ry ⟨l, k, xs, rfl, rfl, hT, hne, by omega, h2, hz, q⟩

/-- x * k for a text -/
def rRepS : R2 := fun x y H Q => ∃ z k, x = .str z ∧ y = .int k ∧ 2 ≤ k ∧ k ≤ 1000 ∧ 1 ≤ z.length ∧ z.length ≤ 1000 ∧ Q (.str (repS z k.toNat)) H
theorem foldl_app (x : Array Nat) : ∀ (n : Nat) (a : Array Nat), ((List.replicate n x).foldl (· ++ ·) a).size = a.size + n * x.size
  | 0, a => by simp
  | n + 1, a => by
    rw [List.replicate_succ, List.foldl_cons, foldl_app x n, Array.size_append, Nat.add_mul]
    omega
theorem repS_len (x : Str) (n : Nat) : (repS x n).length = n * x.length := by
  show ((List.replicate n x.cps).foldl (· ++ ·) #[]).size = _
  rw [foldl_app]
  show 0 + _ = _
  rw [Nat.zero_add]; rfl
theorem op_repS {X : Cx} : OpR X (binaryOp .Mult) rRepS := by
  intro pins s σ H x y v u Q I rx ry h
  obtain ⟨z, k, rfl, rfl, h1, h2, h3, h4, q⟩ := h
  obtain ⟨t, rfl⟩ := rx
  obtain ⟨t', rfl⟩ := ry
  have e1 : (k == 1) = false := by rw [beq_eq_false_iff_ne]; omega
  have e2 : (z.length == 0) = false := by rw [beq_eq_false_iff_ne]; omega
  have hk : z.length * k.toNat ≤ 1000000 := by
    have : k.toNat ≤ 1000 := by omega
    exact Nat.le_trans (Nat.mul_le_mul h4 this) (by decide)
  refine PySem.P.mul_str (by
      have a1 : ¬ k < -(2 ^ 63 : Int) := by omega
      have a2 : ¬ k ≥ (2 ^ 63 : Int) := by omega
      rw [decide_eq_false a1, decide_eq_false a2]; rfl) (fun _ _ => ?_) (fun _ _ => ?_) ?_
  · have : (1000 : Int) ≤ (2 ^ 63 - 1) / k := by
      apply (Int.le_ediv_iff_mul_le (by omega)).mpr
      have : (2 : Int) ^ 63 = 9223372036854775808 := by decide
      omega
    omega
  · have hsz : sizeLine = 16777216 := by rw [sizeLine_eq]
    show decide _ = false
    apply decide_eq_false
    omega
  · rw [if_neg (by omega), e1, e2, Bool.or_self]
    simp only [Bool.false_eq_true, if_false]
    refine ⟨?_, .str (repS z k.toNat), H, I.tok _, ⟨_, rfl⟩, q⟩
    have := repS_len z k.toNat
    have hsz : sizeLine = 16777216 := by rw [sizeLine_eq]
    show (repS z k.toNat).length ≤ sizeLine
    rw [this, Nat.mul_comm]
    omega
theorem str_rep {x : Str} (h : StrOk x) {n : Nat} : StrOk (repS x n) := by
  have go : ∀ (n : Nat) (a : Array Nat), (a.all fun c => decide (c < 0x110000)) = true → (((List.replicate n x.cps).foldl (· ++ ·) a).all fun c => decide (c < 0x110000)) = true := by
    intro n
    induction n with
    | zero => intro a ha; exact ha
    | succ n ih =>
      intro a ha
      rw [List.replicate_succ, List.foldl_cons]
      exact ih _ (by rw [Array.all_append, ha, h]; rfl)
  exact go n #[] (by simp)
def opOf : BOp → Operator
  | .add => .Add | .sub => .Sub | .mul => .Mult | .mod => .Mod | .fdiv => .FloorDiv | .pow => .Pow

section
variable {X : Cx} {G : Prog} {st : Sto} {x y d : D}
abbrev RelX (X : Cx) (G : Prog) := Rel X.K X.mg G
abbrev RepX (X : Cx) (G : Prog) := Rep X.K X.mg G
abbrev QDX (X : Cx) (G : Prog) := QD X.K X.mg G
abbrev QVX (X : Cx) (G : Prog) := QV X.K X.mg G
abbrev QFX (X : Cx) (G : Prog) := QF X.K X.mg G

theorem binD_ok {op : BOp} (e : binD st op x y = some d) : ∃ r, OpR X (binaryOp (opOf op)) r ∧
    ∀ fls m H v u Q, RelX X G fls st m H → RepX X G m H x v → RepX X G m H y u → QDX X G fls st m H d Q → r v u H Q := by
  unfold binD at e
  split at e
  · -- ints
    rename_i i j e1 e2
    cases e
    refine ⟨_, op_add, fun fls m H v u Q R rx ry q => ?_⟩
    exact ⟨i, j, (R.int rx e1).1, (R.int ry e2).1, QV.here q R (.int _)⟩
  · rename_i xs ys e1 e2
    split at e
    · rename_i hz
      cases e
      refine ⟨_, op_cat, fun fls m H v u Q R rx ry q => ?_⟩
      obtain ⟨p, vs, rfl, hp, r1⟩ := R.lst rx e1
      obtain ⟨p', vs', rfl, hp', r2⟩ := R.lst ry e2
      exact ⟨p, p', vs, vs', rfl, rfl, hp, hp', by rw [← r1.length, ← r2.length, ← SZ_eq]; exact hz, fun p hp => QF.lst q R (r1.app r2) hp⟩
    · cases e
  · rename_i xs ys e1 e2
    split at e
    · rename_i hz
      cases e
      refine ⟨_, op_catA, fun fls m H v u Q R rx ry q => ?_⟩
      obtain ⟨p, vs, rfl, hp, r1⟩ := R.tup rx e1
      obtain ⟨p', vs', rfl, hp', r2⟩ := R.tup ry e2
      refine ⟨p, p', vs, vs', rfl, rfl, SqT.of hp, SqT.of hp', by rw [← r1.length, ← r2.length, ← SZ_eq]; exact hz, fun z => ?_, fun z1 z => ?_, fun _ _ p hp => QV.tup q R (r1.app r2) hp⟩
      · subst z
        cases r1
        rw [List.nil_append] at q
        exact QV.here q R (R.tupS ry e2 ▸ ry)
      · subst z
        cases r2
        rw [List.append_nil] at q
        exact QV.here q R (R.tupS rx e1 ▸ rx)
    · cases e
  · rename_i a b e1 e2
    split at e
    · rename_i hz
      cases e
      refine ⟨_, op_add_str, fun fls m H v u Q R rx ry q => ?_⟩
      exact ⟨a, b, (R.str rx e1).1, (R.str ry e2).1, by rw [← SZ_eq]; exact hz, QV.here q R (.str (str_app (R.str rx e1).2.2 (R.str ry e2).2.2))⟩
    · cases e
  · rename_i i j e1 e2
    cases e
    refine ⟨_, op_sub, fun fls m H v u Q R rx ry q => ?_⟩
    exact ⟨i, j, (R.int rx e1).1, (R.int ry e2).1, QV.here q R (.int _)⟩
  · rename_i i j e1 e2
    split at e
    · rename_i hz
      cases e
      unfold mulOk at hz
      simp only [Bool.or_eq_true, decide_eq_true_eq] at hz
      have hz : ((-(2 ^ 64) < i ∧ i < 2 ^ 64) ∨ (-(2 ^ 64) < j ∧ j < 2 ^ 64)) ∨ i.natAbs.log2 + j.natAbs.log2 < 1000000 := by
        rcases hz with (hz | hz) | hz
        · left; left; omega
        · left; right; omega
        · right; exact hz
      rcases hz with hz | hz
      · refine ⟨_, op_mul, fun fls m H v u Q R rx ry q => ?_⟩
        exact ⟨i, j, (R.int rx e1).1, (R.int ry e2).1, hz, QV.here q R (.int _)⟩
      · refine ⟨_, op_mulW, fun fls m H v u Q R rx ry q => ?_⟩
        exact ⟨i, j, (R.int rx e1).1, (R.int ry e2).1, hz, QV.here q R (.int _)⟩
    · cases e
  · rename_i xs k e1 e2
    split at e
    · rename_i hz
      cases e
      refine ⟨_, op_rep, fun fls m H v u Q R rx ry q => ?_⟩
      obtain ⟨p, vs, rfl, hp, r1⟩ := R.lst rx e1
      obtain ⟨rfl, _⟩ := R.int ry e2
      obtain ⟨h1, h2⟩ := hz
      have h2' : k.natAbs ≤ 16777216 := h2
      exact ⟨p, k, vs, rfl, rfl, hp, by omega, by omega, by rw [← r1.length, ← SZ_eq]; exact h1, fun p hp => QF.lst q R (r1.rep _) hp⟩
    · cases e
  · rename_i xs k e1 e2
    split at e
    · rename_i hz
      cases e
      refine ⟨_, op_rep1, fun fls m H v u Q R rx ry q => ?_⟩
      obtain ⟨p, vs, rfl, hp, r1⟩ := R.tup rx e1
      obtain ⟨rfl, _⟩ := R.int ry e2
      obtain ⟨h1, h2, h3, h4⟩ := hz
      have hne : vs ≠ [] := fun z => by subst z; cases r1; exact h4 rfl
      refine ⟨p, k, vs, rfl, rfl, SqT.of hp, hne, h2, h3, by rw [← r1.length]; exact h1, fun z => ?_, fun p hp => QV.tup q R (r1.rep _) hp⟩
      subst z
      have e3 : (List.replicate (1 : Int).toNat xs).flatten = xs := by simp
      rw [e3] at q
      exact QV.here q R (R.tupS rx e1 ▸ rx)
    · cases e
  · rename_i x k e1 e2
    split at e
    · rename_i hz
      cases e
      refine ⟨_, op_repS, fun fls m H v u Q R rx ry q => ?_⟩
      obtain ⟨h1, h2, h3, h4⟩ := hz
      refine ⟨x, k, (R.str rx e1).1, (R.int ry e2).1, h1, h2, h3, h4, QV.here q R (.str (str_rep (R.str rx e1).2.2))⟩
    · cases e
  · rename_i i j e1 e2
    split at e
    · rename_i hz
      cases e
      refine ⟨_, op_modN, fun fls m H v u Q R rx ry q => ?_⟩
      refine ⟨i, j, (R.int rx e1).1, (R.int ry e2).1, by show j ≠ 0; omega, ?_⟩
      show Q (V.int (i.fmod j)) H
      rw [Int.fmod_eq_emod_of_nonneg _ (by omega)]
      exact QV.here q R (.int _)
    · cases e
  · rename_i i j e1 e2
    split at e
    · rename_i hz
      cases e
      unfold divOk at hz
      simp only [Bool.and_eq_true, decide_eq_true_eq] at hz
      refine ⟨_, op_fdivW, fun fls m H v u Q R rx ry q => ?_⟩
      exact ⟨i, j, (R.int rx e1).1, (R.int ry e2).1, hz, QV.here q R (.int _)⟩
    · cases e
  · rename_i i j e1 e2
    split at e
    · rename_i hz
      cases e
      refine ⟨_, op_pow, fun fls m H v u Q R rx ry q => ?_⟩
      exact ⟨i, j, (R.int rx e1).1, (R.int ry e2).1, hz, QV.here q R (.int _)⟩
    · cases e
  · cases e
end
end Ev

set_option Elab.async false
set_option linter.all false
set_option maxRecDepth 100000
set_option maxHeartbeats 4000000
/-! Ev, part 4: comparisons, subscripts. -/
namespace Ev
open PySem L2 PySem.Spec
open PyProof.Rows hiding St

mutual
def toPy : D → PyData
  | .bl b => .bool b
  | .int i => .int i
  | .str x => .str x
  | .tup xs => .tuple (toPys xs)
  | .lst xs => .list (toPys xs)
  | .non => .none | .fz _ => .none | .tk _ => .none | .dk _ => .none | .dt _ => .none | .ins _ _ => .none
  | .ref _ => .none | .fn _ => .none | .cl _ => .none | .ty _ => .none | .err _ _ => .none
def toPys : List D → List PyData
  | [] => []
  | x :: xs => toPy x :: toPys xs
end
theorem toPys_eq : ∀ xs : List D, toPys xs = xs.map toPy
  | [] => rfl
  | x :: xs => by rw [toPys, toPys_eq xs]; rfl

section
variable {K : PySem.W.Frag} {mg : Str → Option Value} {G : Prog} {m : Mp} {H : Hp}
mutual
theorem Rep.dp : ∀ (d : D) (n : Nat) (v : V), Rep K mg G m H d v → okN n d = true → Dp K H v (toPy d) ∧ (toPy d).canLay0 = true ∧ (toPy d).depth ≤ n
  | .non, n, _, .non, _ => ⟨.non, rfl, by simp [toPy, PyData.depth]⟩
  | .bl b, n, _, .bl _, _ => ⟨.bl b, rfl, by simp [toPy, PyData.depth]⟩
  | .int i, n, _, .int _, _ => ⟨.int i, rfl, by simp [toPy, PyData.depth]⟩
  | .str x, n, _, .str h, _ => ⟨.str x, h, by simp [toPy, PyData.depth]⟩
  | .tup xs, n + 1, _, .tup a b r, o => by
    obtain ⟨h1, h2, h3⟩ := Reps.dp xs n _ r (by simpa [okN] using o)
    exact ⟨.tup (.inl (.inl b)) h1, by simpa [toPy, PyData.canLay0] using h2, by simp [toPy, PyData.depth]; omega⟩
  | .lst xs, n + 1, _, .lst a b r, o => by
    obtain ⟨h1, h2, h3⟩ := Reps.dp xs n _ r (by simpa [okN] using o)
    exact ⟨.lst (.inl (.inl b)) h1, by simpa [toPy, PyData.canLay0] using h2, by simp [toPy, PyData.depth]; omega⟩
  | .tup xs, 0, _, _, o => by simp [okN] at o
  | .lst xs, 0, _, _, o => by simp [okN] at o
  | .fz _, n, _, _, o => by cases n <;> simp [okN] at o
  | .tk _, n, _, _, o => by cases n <;> simp [okN] at o
  | .dk _, n, _, _, o => by cases n <;> simp [okN] at o
  | .dt _, n, _, _, o => by cases n <;> simp [okN] at o
  | .ins _ _, n, _, _, o => by cases n <;> simp [okN] at o
  | .ref _, n, _, _, o => by cases n <;> simp [okN] at o
  | .fn _, n, _, _, o => by cases n <;> simp [okN] at o
  | .cl _, n, _, _, o => by cases n <;> simp [okN] at o
  | .ty _, n, _, _, o => by cases n <;> simp [okN] at o
  | .err _ _, n, _, _, o => by cases n <;> simp [okN] at o
theorem Reps.dp : ∀ (xs : List D) (n : Nat) (vs : List V), Reps K mg G m H xs vs → okNs n xs = true → DpAll K H vs (toPys xs) ∧ PyData.canLayAll0 (toPys xs) = true ∧ PyData.depthAll (toPys xs) ≤ n
  | [], n, _, .nil, _ => ⟨.nil, rfl, by simp [toPys, PyData.depthAll]⟩
  | x :: xs, n, _, .cons a t, o => by
    have o' : okN n x = true ∧ okNs n xs = true := by simpa [okNs] using o
    obtain ⟨h1, h2, h3⟩ := Rep.dp x n _ a o'.1
    obtain ⟨g1, g2, g3⟩ := Reps.dp xs n _ t o'.2
    exact ⟨.cons h1 g1, by simp [toPys, PyData.canLayAll0, h2, g2], by simp [toPys, PyData.depthAll]; omega⟩
end
theorem shaped_of {p : PyData} {n : Nat} (h : n ≤ 64) (a : p.canLay0 = true) (b : p.depth ≤ n) : SeqAt.shaped p = true := by
  unfold SeqAt.shaped
  rw [a, decide_eq_true (by omega)]; rfl
/-- a thing or a cell's content, as data -/
theorem Rel.dp {fls st} (R : Rel K mg G fls st m H) {d : D} {v : V} (r : Rep K mg G m H d v) (o : okN 60 (view st d) = true) :
    Dp K H v (toPy (view st d)) ∧ SeqAt.shaped (toPy (view st d)) = true := by
  have key : ∀ {d' : D}, Rep K mg G m H d' v → okN 60 d' = true → Dp K H v (toPy d') ∧ SeqAt.shaped (toPy d') = true := fun r o => by
    obtain ⟨a, b, c⟩ := r.dp _ 60 _ o
    exact ⟨a, shaped_of (by omega) b c⟩
  cases r with
  | @ref n p h =>
    have hn : n < st.length := by rw [← R.len]; exact (List.getElem?_eq_some_iff.mp h).1
    obtain ⟨u, a, b⟩ := R.cell n _ p (List.getElem?_eq_getElem hn) h
    have e : view st (.ref n) = st[n] := by simp [view, hn]
    rw [e] at o ⊢
    generalize st[n] = c at b o
    cases b with
    | lst r =>
      rename_i ds vs
      obtain ⟨h1, h2, h3⟩ := Reps.dp ds 59 _ r (by simpa [okN] using o)
      exact ⟨.lst (.inl (.inl a)) h1, shaped_of (n := 60) (by omega) (by simpa [toPy, PyData.canLay0] using h2) (by simp [toPy, PyData.depth]; omega)⟩
    | dk r => simp [okN] at o
    | dt r => simp [okN] at o
  | non => exact key .non o
  | bl b => exact key (.bl b) o
  | int i => exact key (.int i) o
  | str h => exact key (.str h) o
  | tup a b c => exact key (.tup a b c) o
  | lst a b c => exact key (.lst a b c) o
  | fz a b c => exact key (.fz a b c) o
  | fzK a b => exact key (.fzK a b) o
  | tk a b => exact key (.tk a b) o
  | dk a b c => exact key (.dk a b c) o
  | dt a b c => exact key (.dt a b c) o
  | fn a b => exact key (.fn a b) o
  | ty n => exact key (.ty n) o
end

mutual
theorem eqv_py : ∀ (a b : D) (n k : Nat), okN n a = true → okN k b = true → PyData.eqv (toPy a) (toPy b) = eqv a b
  | .non, b, n, k, _, ob => by cases b <;> first | (simp [toPy, PyData.eqv, eqv]; done) | (cases k <;> simp [okN] at ob)
  | .bl x, b, n, k, _, ob => by cases b <;> first | (simp [toPy, PyData.eqv, eqv]; done) | (cases k <;> simp [okN] at ob)
  | .int i, b, n, k, _, ob => by
    cases b <;> first
      | (simp [toPy, PyData.eqv, eqv]; done)
      | (rename_i j; show (i == j) = decide (i = j); rw [Bool.beq_eq_decide_eq])
      | (cases k <;> simp [okN] at ob)
  | .str i, b, n, k, _, ob => by
    cases b <;> first
      | (simp [toPy, PyData.eqv, eqv]; done)
      | (rename_i j; show (i == j) = decide (i = j); rw [Bool.beq_eq_decide_eq])
      | (cases k <;> simp [okN] at ob)
  | .tup xs, b, 0, k, oa, ob => by simp [okN] at oa
  | .tup xs, b, n + 1, k, oa, ob => by
    cases b with
    | tup ys =>
      cases k with
      | zero => simp [okN] at ob
      | succ k => simpa [toPy, PyData.eqv, eqv] using eqvs_py xs ys n k (by simpa [okN] using oa) (by simpa [okN] using ob)
    | non => simp [toPy, PyData.eqv, eqv]
    | bl _ => simp [toPy, PyData.eqv, eqv]
    | int _ => simp [toPy, PyData.eqv, eqv]
    | str _ => simp [toPy, PyData.eqv, eqv]
    | lst _ => simp [toPy, PyData.eqv, eqv]
    | _ => cases k <;> simp [okN] at ob
  | .lst xs, b, 0, k, oa, ob => by simp [okN] at oa
  | .lst xs, b, n + 1, k, oa, ob => by
    cases b with
    | lst ys =>
      cases k with
      | zero => simp [okN] at ob
      | succ k => simpa [toPy, PyData.eqv, eqv] using eqvs_py xs ys n k (by simpa [okN] using oa) (by simpa [okN] using ob)
    | non => simp [toPy, PyData.eqv, eqv]
    | bl _ => simp [toPy, PyData.eqv, eqv]
    | int _ => simp [toPy, PyData.eqv, eqv]
    | str _ => simp [toPy, PyData.eqv, eqv]
    | tup _ => simp [toPy, PyData.eqv, eqv]
    | _ => cases k <;> simp [okN] at ob
  | .fz _, b, n, k, oa, ob => by cases n <;> simp [okN] at oa
  | .tk _, b, n, k, oa, ob => by cases n <;> simp [okN] at oa
  | .dk _, b, n, k, oa, ob => by cases n <;> simp [okN] at oa
  | .dt _, b, n, k, oa, ob => by cases n <;> simp [okN] at oa
  | .ins _ _, b, n, k, oa, ob => by cases n <;> simp [okN] at oa
  | .ref _, b, n, k, oa, ob => by cases n <;> simp [okN] at oa
  | .fn _, b, n, k, oa, ob => by cases n <;> simp [okN] at oa
  | .cl _, b, n, k, oa, ob => by cases n <;> simp [okN] at oa
  | .ty _, b, n, k, oa, ob => by cases n <;> simp [okN] at oa
  | .err _ _, b, n, k, oa, ob => by cases n <;> simp [okN] at oa
theorem eqvs_py : ∀ (xs ys : List D) (n k : Nat), okNs n xs = true → okNs k ys = true → PyData.eqvAll (toPys xs) (toPys ys) = eqvs xs ys
  | [], [], n, k, _, _ => rfl
  | [], _ :: _, n, k, _, _ => rfl
  | _ :: _, [], n, k, _, _ => rfl
  | x :: xs, y :: ys, n, k, oa, ob => by
    have oa' : okN n x = true ∧ okNs n xs = true := by simpa [okNs] using oa
    have ob' : okN k y = true ∧ okNs k ys = true := by simpa [okNs] using ob
    simp only [toPys, PyData.eqvAll, eqvs, eqv_py x y n k oa'.1 ob'.1, eqvs_py xs ys n k oa'.2 ob'.2]
end

def copOf : COp → CmpOp
  | .eq => .Eq | .ne => .NotEq | .lt => .Lt | .le => .LtE | .gt => .Gt | .ge => .GtE | .mem => .In | .nmem => .NotIn

theorem okN_of_okNs {n : Nat} {xs : List D} (h : okNs n xs = true) : ∀ x ∈ xs, okN n x = true := by
  induction xs with
  | nil => intro x h; cases h
  | cons y ys ih =>
    have h' : okN n y = true ∧ okNs n ys = true := by simpa [okNs] using h
    intro x hx
    rcases List.mem_cons.mp hx with rfl | hx
    · exact h'.1
    · exact ih h'.2 x hx

section
variable {X : Cx} {G : Prog} {st : Sto} {x y d : D}
theorem RepK.val {κ : Type} {K : PySem.W.Frag} {mg : Str → Option Value} {m : Mp} {H : Hp} {ds : List (Key × D)} {kvs : List (Key × V)} (r : RepK K mg G m H ds kvs) (k : Key) :
    (dget ds k = none ∧ valV kvs k = none) ∨ ∃ d v, dget ds k = some d ∧ valV kvs k = some v ∧ Rep K mg G m H d v := by
  induction ds generalizing kvs with
  | nil => cases r; exact .inl ⟨rfl, rfl⟩
  | cons p ds ih =>
    cases r with
    | @cons k0 d v r0 r' a t =>
      by_cases e : k0 = k
      · exact .inr ⟨d, v, by simp [dget, List.find?_cons, e], valV_pos (p := (k0, v)) e, a⟩
      · have e1 : dget ((k0, d) :: ds) k = dget ds k := by simp [dget, List.find?_cons, e]
        rw [e1, valV_neg (p := (k0, v)) e]
        exact ih t
theorem RepT.val {K : PySem.W.Frag} {mg : Str → Option Value} {m : Mp} {H : Hp} {ds : List (List Key × D)} {kvs : List (List Key × V)} (r : RepT K mg G m H ds kvs) (k : List Key) :
    (dget ds k = none ∧ valV kvs k = none) ∨ ∃ d v, dget ds k = some d ∧ valV kvs k = some v ∧ Rep K mg G m H d v := by
  induction ds generalizing kvs with
  | nil => cases r; exact .inl ⟨rfl, rfl⟩
  | cons p ds ih =>
    cases r with
    | @cons k0 d v r0 r' a t =>
      by_cases e : k0 = k
      · exact .inr ⟨d, v, by simp [dget, List.find?_cons, e], valV_pos (p := (k0, v)) e, a⟩
      · have e1 : dget ((k0, d) :: ds) k = dget ds k := by simp [dget, List.find?_cons, e]
        rw [e1, valV_neg (p := (k0, v)) e]
        exact ih t
theorem keyD_rep {K : PySem.W.Frag} {mg : Str → Option Value} {m : Mp} {H : Hp} {d : D} {v : V} {k : Key} (e : keyD d = some k) (r : Rep K mg G m H d v) : v = kV k := by
  cases d <;> simp [keyD] at e
  all_goals (subst e; cases r; rfl)
theorem keysD_rep {K : PySem.W.Frag} {mg : Str → Option Value} {m : Mp} {H : Hp} : ∀ {ds : List D} {vs : List V} {ks : List Key}, keysD ds = some ks → Reps K mg G m H ds vs → vs = ks.map kV
  | [], _, ks, e, .nil => by simp [keysD] at e; subst e; rfl
  | d :: ds, _, ks, e, .cons a t => by
    simp only [keysD] at e
    split at e
    · rename_i k ks' e1 e2
      cases e
      rw [keyD_rep e1 a, keysD_rep e2 t]; rfl
    · cases e
/-- membership in dicts, by values -/
def rInDict (neg : Bool) : R2 := fun x y H Q => ∃ a o, y = .ref a ∧ DGet H a x o ∧ Q (.bl (if neg = true then !o.isSome else o.isSome)) H
theorem op_inDict (hu : X.A.units + 1 < cLine) : OpR X (compareOp .In) (rInDict false) := by
  intro pins s σ H x y v u Q I rx ry h
  obtain ⟨a, o, rfl, g, q⟩ := h
  cases ry
  exact d_in hu I g rx fun s' I' => ⟨.bl o.isSome, H, I', rfl, by simpa using q⟩
theorem op_ninDict (hu : X.A.units + 1 < cLine) : OpR X (compareOp .NotIn) (rInDict true) := by
  intro pins s σ H x y v u Q I rx ry h
  obtain ⟨a, o, rfl, g, q⟩ := h
  cases ry
  exact d_notIn hu I g rx fun s' I' => ⟨.bl (!o.isSome), H, I', rfl, by simpa using q⟩

theorem eqD_ok {b : Bool} (hu : X.A.units + 65 < cLine) (e : eqD st x y = some b) : 
    ∀ {fls m H v u}, RelX X G fls st m H → RepX X G m H x v → RepX X G m H y u → ∃ d e, Dp X.K H v d ∧ Dp X.K H u e ∧ SeqAt.shaped d = true ∧ SeqAt.shaped e = true ∧ PyData.eqv d e = b := fun {fls m H v u} R rx ry => by
  unfold eqD at e
  split at e
  · rename_i h
    simp only [Bool.and_eq_true] at h
    cases e
    obtain ⟨d1, s1⟩ := R.dp rx h.1
    obtain ⟨d2, s2⟩ := R.dp ry h.2
    exact ⟨_, _, d1, d2, s1, s2, eqv_py _ _ _ _ h.1 h.2⟩
  · cases e

theorem flat_rep {K : PySem.W.Frag} {mg : Str → Option Value} {m : Mp} {H : Hp} {d : D} {v : V} (f : flat d = true) (r : Rep K mg G m H d v) : flatV v = true := by
  cases r <;> first | rfl | simp [flat] at f
theorem flats_rep {K : PySem.W.Frag} {mg : Str → Option Value} {m : Mp} {H : Hp} : ∀ {ds : List D} {vs : List V}, ds.all flat = true → Reps K mg G m H ds vs → vs.all flatV = true
  | [], _, _, .nil => rfl
  | d :: ds, _, f, .cons a t => by
    simp only [List.all_cons, Bool.and_eq_true] at f
    simp only [List.all_cons, flat_rep f.1 a, flats_rep f.2 t, Bool.and_self]
end
end Ev

set_option Elab.async false
set_option linter.all false
set_option maxRecDepth 100000
set_option maxHeartbeats 4000000
/-! Ev, part 5: comparisons, subscripts, built-ins. -/
namespace Ev
open PySem L2 PySem.Spec
open PyProof.Rows hiding St
section
variable {X : Cx} {G : Prog} {st : Sto} {x y d : D}

theorem eqV_eqv {K : PySem.W.Frag} {mg : Str → Option Value} {m : Mp} {H : Hp} {a b : D} {u v : V} (fa : flat a = true) (fb : flat b = true) (ra : Rep K mg G m H a u) (rb : Rep K mg G m H b v) : eqV u v = eqv a b := by
  cases ra <;> first | (simp [flat] at fa; done) | skip
  all_goals (cases rb <;> first | (simp [flat] at fb; done) | skip)
  all_goals (simp [eqV, eqv])
  all_goals (first | rw [Bool.beq_eq_decide_eq] | rfl)
theorem inV_any {K : PySem.W.Frag} {mg : Str → Option Value} {m : Mp} {H : Hp} {a : D} {u : V} (fa : flat a = true) (ra : Rep K mg G m H a u) : ∀ {xs : List D} {vs : List V}, xs.all flat = true → Reps K mg G m H xs vs → inV u vs = xs.any fun x => eqv x a
  | [], _, _, .nil => rfl
  | x :: xs, _, f, .cons r t => by
    simp only [List.all_cons, Bool.and_eq_true] at f
    show (eqV _ u || inV u _) = _
    rw [eqV_eqv f.1 fa r ra, inV_any fa ra f.2 t]; rfl
theorem any_py {a : D} {n : Nat} (oa : okN n a = true) : ∀ (xs : List D) {k : Nat}, okNs k xs = true → ((toPys xs).any fun z => PyData.eqv z (toPy a)) = xs.any fun x => eqv x a
  | [], _, _ => rfl
  | x :: xs, k, h => by
    have h' : okN k x = true ∧ okNs k xs = true := by simpa [okNs] using h
    simp only [toPys, List.any_cons, eqv_py x a k n h'.1 oa, any_py oa xs h'.2]

theorem memD_ok {b : Bool} (hu : X.A.units + 65 < cLine) (e : memD st x y = some b) (neg : Bool) : ∃ r, OpR X (compareOp (if neg = true then .NotIn else .In)) r ∧
    ∀ fls m H v u Q, RelX X G fls st m H → RepX X G m H x v → RepX X G m H y u → Q (.bl (if neg = true then !b else b)) H → r v u H Q := by
  unfold memD at e
  split at e
  · rename_i xs ev
    split at e
    · rename_i h
      simp only [Bool.and_eq_true] at h
      cases e
      have key : ∀ {fls m H v u}, RelX X G fls st m H → RepX X G m H x v → RepX X G m H y u → ∃ d ds, Dp X.K H v d ∧ Dp X.K H u (.list ds) ∧ SeqAt.shaped d = true ∧ SeqAt.shaped (.list ds) = true ∧ (ds.any fun z => PyData.eqv z d) = xs.any fun z => eqv z x := fun {fls m H v u} R rx ry => by
        obtain ⟨a1, a2, a3⟩ := rx.dp _ 60 _ h.1
        obtain ⟨p, vs, rfl, hp, r⟩ := R.lst ry ev
        obtain ⟨g1, g2, g3⟩ := Reps.dp xs 59 _ r h.2
        exact ⟨_, _, a1, .lst (.inl (.inl hp)) g1, shaped_of (by omega) a2 a3, shaped_of (n := 60) (by omega) (by simpa [PyData.canLay0] using g2) (by simp [PyData.depth]; omega), any_py h.1 xs h.2⟩
      cases neg with
      | false =>
        refine ⟨_, op_inD hu, fun fls m H v u Q R rx ry q => ?_⟩
        obtain ⟨d, ds, h1, h2, h3, h4, h5⟩ := key R rx ry
        exact ⟨d, ds, h1, h2, h3, h4, by rw [h5]; simpa using q⟩
      | true =>
        refine ⟨_, op_notInD hu, fun fls m H v u Q R rx ry q => ?_⟩
        obtain ⟨d, ds, h1, h2, h3, h4, h5⟩ := key R rx ry
        exact ⟨d, ds, h1, h2, h3, h4, by rw [h5]; simpa using q⟩
    · cases e
  · rename_i xs ev
    split at e
    · rename_i h
      simp only [Bool.and_eq_true] at h
      cases e
      cases neg with
      | false =>
        refine ⟨_, op_in_seq, fun fls m H v u Q R rx ry q => ?_⟩
        obtain ⟨p, vs, rfl, hp, r⟩ := R.tup ry ev
        exact ⟨p, vs, rfl, .inr (SqT.of hp), flat_rep h.1 rx, flats_rep h.2 r, by rw [inV_any h.1 rx h.2 r]; simpa using q⟩
      | true =>
        refine ⟨_, op_notIn_seq, fun fls m H v u Q R rx ry q => ?_⟩
        obtain ⟨p, vs, rfl, hp, r⟩ := R.tup ry ev
        exact ⟨p, vs, rfl, .inr (SqT.of hp), flat_rep h.1 rx, flats_rep h.2 r, by rw [inV_any h.1 rx h.2 r]; simpa using q⟩
    · cases e
  · rename_i xs ev
    split at e
    · rename_i h
      simp only [Bool.and_eq_true] at h
      cases e
      cases neg with
      | false =>
        refine ⟨_, op_in_seq, fun fls m H v u Q R rx ry q => ?_⟩
        obtain ⟨p, vs, rfl, hp, r⟩ := R.tk ry ev
        exact ⟨p, vs, rfl, .inr hp, flat_rep h.1 rx, flats_rep h.2 r, by rw [inV_any h.1 rx h.2 r]; simpa using q⟩
      | true =>
        refine ⟨_, op_notIn_seq, fun fls m H v u Q R rx ry q => ?_⟩
        obtain ⟨p, vs, rfl, hp, r⟩ := R.tk ry ev
        exact ⟨p, vs, rfl, .inr hp, flat_rep h.1 rx, flats_rep h.2 r, by rw [inV_any h.1 rx h.2 r]; simpa using q⟩
    · cases e
  · rename_i z ev
    split at e
    · rename_i x0
      split at e
      · rename_i c hc
        cases e
        have hx : x0 = ⟨#[c]⟩ := by
          obtain ⟨a⟩ := x0
          congr 1
          apply Array.toList_inj.mp
          exact hc
        cases neg with
        | false =>
          refine ⟨_, op_in_sign, fun fls m H v u Q R rx ry q => ?_⟩
          cases rx
          exact ⟨c, z, by rw [hx], (R.str ry ev).1, by simpa using q⟩
        | true =>
          refine ⟨_, op_notIn_sign, fun fls m H v u Q R rx ry q => ?_⟩
          cases rx
          exact ⟨c, z, by rw [hx], (R.str ry ev).1, by simpa using q⟩
      · cases e
    · cases e
  · rename_i kvs ev
    have key : ∀ {fls m H v u}, RelX X G fls st m H → RepX X G m H x v → RepX X G m H y u → ∃ a o, u = .ref a ∧ DGet H a v o ∧ o.isSome = b := fun {fls m H v u} R rx ry => by
      obtain ⟨p, vs, rfl, hp, r⟩ := R.dk ry ev
      cases ek : keyD x with
      | none => rw [ek] at e; cases e
      | some k =>
        rw [ek] at e
        simp at e
        have ekv := keyD_rep ek rx
        subst ekv
        refine ⟨p, valV vs k, rfl, DGet.k hp, ?_⟩
        rcases r.val (κ := Nat) k with ⟨h1, h2⟩ | ⟨d, v, h1, h2, _⟩
        · rw [h2, ← e, h1]; rfl
        · rw [h2, ← e, h1]; rfl
    cases neg with
    | false =>
      refine ⟨_, op_inDict (by omega), fun fls m H v u Q R rx ry q => ?_⟩
      obtain ⟨a, o, h1, h2, h3⟩ := key R rx ry
      exact ⟨a, o, h1, h2, by rw [h3]; simpa using q⟩
    | true =>
      refine ⟨_, op_ninDict (by omega), fun fls m H v u Q R rx ry q => ?_⟩
      obtain ⟨a, o, h1, h2, h3⟩ := key R rx ry
      exact ⟨a, o, h1, h2, by rw [h3]; simpa using q⟩
  · rename_i kvs ev
    split at e
    · rename_i ds
      have key : ∀ {fls m H v u}, RelX X G fls st m H → RepX X G m H (.tup ds) v → RepX X G m H y u → ∃ a o, u = .ref a ∧ DGet H a v o ∧ o.isSome = b := fun {fls m H v u} R rx ry => by
        obtain ⟨p, vs, rfl, hp, r⟩ := R.dt ry ev
        obtain ⟨p', vs', rfl, hp', r'⟩ := R.tup rx rfl
        cases ek : keysD ds with
        | none => rw [ek] at e; cases e
        | some k =>
          rw [ek] at e
          simp at e
          have ekv := keysD_rep ek r'
          subst ekv
          refine ⟨p, valV vs k, rfl, DGet.t hp hp', ?_⟩
          rcases r.val k with ⟨h1, h2⟩ | ⟨d, v, h1, h2, _⟩
          · rw [h2, ← e, h1]; rfl
          · rw [h2, ← e, h1]; rfl
      cases neg with
      | false =>
        refine ⟨_, op_inDict (by omega), fun fls m H v u Q R rx ry q => ?_⟩
        obtain ⟨a, o, h1, h2, h3⟩ := key R rx ry
        exact ⟨a, o, h1, h2, by rw [h3]; simpa using q⟩
      | true =>
        refine ⟨_, op_ninDict (by omega), fun fls m H v u Q R rx ry q => ?_⟩
        obtain ⟨a, o, h1, h2, h3⟩ := key R rx ry
        exact ⟨a, o, h1, h2, by rw [h3]; simpa using q⟩
    · cases e
  · cases e

theorem cmpD_ok {op : COp} {b : Bool} (hu : X.A.units + 65 < cLine) (e : cmpD st op x y = some b) : ∃ r, OpR X (compareOp (copOf op)) r ∧
    ∀ fls m H v u Q, RelX X G fls st m H → RepX X G m H x v → RepX X G m H y u → Q (.bl b) H → r v u H Q := by
  unfold cmpD at e
  cases op with
  | eq =>
    refine ⟨_, op_eqD (by omega), fun fls m H v u Q R rx ry q => ?_⟩
    obtain ⟨d, e', h1, h2, h3, h4, h5⟩ := eqD_ok hu e R rx ry
    exact ⟨d, e', h1, h2, h3, h4, by rw [h5]; exact q⟩
  | ne =>
    simp only [Option.map_eq_some_iff] at e
    obtain ⟨c, e, rfl⟩ := e
    refine ⟨_, op_neD (by omega), fun fls m H v u Q R rx ry q => ?_⟩
    obtain ⟨d, e', h1, h2, h3, h4, h5⟩ := eqD_ok hu e R rx ry
    exact ⟨d, e', h1, h2, h3, h4, by rw [h5]; exact q⟩
  | mem =>
    obtain ⟨r, h1, h2⟩ := memD_ok (G := G) hu e false
    exact ⟨r, h1, fun fls m H v u Q R rx ry q => h2 fls m H v u Q R rx ry (by simpa using q)⟩
  | nmem =>
    simp only [Option.map_eq_some_iff] at e
    obtain ⟨c, e, rfl⟩ := e
    obtain ⟨r, h1, h2⟩ := memD_ok (G := G) hu e true
    exact ⟨r, h1, fun fls m H v u Q R rx ry q => h2 fls m H v u Q R rx ry (by simpa using q)⟩
  | lt =>
    simp only at e
    split at e
    · cases e
      refine ⟨_, op_lt, fun fls m H v u Q R rx ry q => ?_⟩
      cases rx; cases ry
      exact ⟨_, _, rfl, rfl, q⟩
    · cases e
      refine ⟨_, op_lt_str, fun fls m H v u Q R rx ry q => ?_⟩
      cases rx; cases ry
      exact ⟨_, _, rfl, rfl, q⟩
    · cases e
  | le =>
    simp only at e
    split at e
    · cases e
      refine ⟨_, op_le, fun fls m H v u Q R rx ry q => ?_⟩
      cases rx; cases ry
      exact ⟨_, _, rfl, rfl, q⟩
    · cases e
      refine ⟨_, op_le_str, fun fls m H v u Q R rx ry q => ?_⟩
      cases rx; cases ry
      exact ⟨_, _, rfl, rfl, q⟩
    · cases e
  | gt =>
    simp only at e
    split at e
    · cases e
      refine ⟨_, op_gt, fun fls m H v u Q R rx ry q => ?_⟩
      cases rx; cases ry
      exact ⟨_, _, rfl, rfl, q⟩
    · cases e
      refine ⟨_, op_gt_str, fun fls m H v u Q R rx ry q => ?_⟩
      cases rx; cases ry
      exact ⟨_, _, rfl, rfl, q⟩
    · cases e
  | ge =>
    simp only at e
    split at e
    · cases e
      refine ⟨_, op_ge, fun fls m H v u Q R rx ry q => ?_⟩
      cases rx; cases ry
      exact ⟨_, _, rfl, rfl, q⟩
    · cases e
      refine ⟨_, op_ge_str, fun fls m H v u Q R rx ry q => ?_⟩
      cases rx; cases ry
      exact ⟨_, _, rfl, rfl, q⟩
    · cases e
end
end Ev

set_option Elab.async false
set_option linter.all false
set_option maxRecDepth 100000
set_option maxHeartbeats 4000000
/-! Ev, part 6: built-ins by values. -/
namespace Ev
open PySem L2 PySem.Spec
open PyProof.Rows hiding St

/-! ### plain facts -/
theorem ins1_perm (x : Int) : ∀ l : List Int, (ins1 x l).Perm (x :: l)
  | [] => .refl _
  | y :: r => by
    unfold ins1
    split
    · exact .refl _
    · exact (List.Perm.cons y (ins1_perm x r)).trans (List.Perm.swap x y r)
theorem ins1_pair (x : Int) : ∀ l : List Int, l.Pairwise (· ≤ ·) → (ins1 x l).Pairwise (· ≤ ·)
  | [], _ => by simp [ins1]
  | y :: r, h => by
    have h' := List.pairwise_cons.mp h
    unfold ins1
    split
    · rename_i hxy
      refine List.pairwise_cons.mpr ⟨fun z hz => ?_, h⟩
      rcases List.mem_cons.mp hz with rfl | hz
      · exact hxy
      · exact Int.le_trans hxy (h'.1 z hz)
    · rename_i hxy
      refine List.pairwise_cons.mpr ⟨fun z hz => ?_, ins1_pair x r h'.2⟩
      rcases List.mem_cons.mp ((ins1_perm x r).subset hz) with rfl | hz
      · omega
      · exact h'.1 z hz
theorem isort_perm : ∀ l : List Int, (isort l).Perm l
  | [] => .refl _
  | x :: r => (ins1_perm x _).trans (List.Perm.cons x (isort_perm r))
theorem isort_pair : ∀ l : List Int, (isort l).Pairwise (· ≤ ·)
  | [] => .nil
  | x :: r => ins1_pair x _ (isort_pair r)
theorem sorted_unique {a b : List Int} (p : a.Perm b) (ha : a.Pairwise (· ≤ ·)) (hb : b.Pairwise (· ≤ ·)) : a = b :=
  p.eq_of_pairwise (fun x y _ _ h1 h2 => Int.le_antisymm h1 h2) ha hb

theorem ltS_irr (x : Str) : ltS x x = false := by
  unfold ltS
  exact decide_eq_false (List.lt_irrefl _)
theorem ltS_le {x y : Str} : ltS y x = false ↔ x.cps.toList ≤ y.cps.toList := by
  unfold ltS
  rw [decide_eq_false_iff_not]
  exact Iff.rfl
theorem ltS_trans' {x y z : Str} (h1 : ltS y x = false) (h2 : ltS z y = false) : ltS z x = false :=
  ltS_le.mpr (List.le_trans (ltS_le.mp h1) (ltS_le.mp h2))
theorem ltS_anti {x y : Str} (h1 : ltS y x = false) (h2 : ltS x y = false) : x = y := by
  have := List.le_antisymm (ltS_le.mp h1) (ltS_le.mp h2)
  cases x; cases y
  congr 1
  exact Array.toList_inj.mp this
theorem ltS_asymm {x y : Str} (h : ltS x y = true) : ltS y x = false := by
  unfold ltS at *
  exact decide_eq_false (List.lt_asymm (of_decide_eq_true h))
theorem ltCps_ltS (x y : Str) : ltCps x.cps.toList y.cps.toList = ltS x y := by
  unfold ltS
  have : ∀ a b : List Nat, ltCps a b = decide (a < b) := by
    intro a
    induction a with
    | nil => intro b; cases b <;> simp [ltCps]
    | cons c r ih =>
      intro b
      cases b with
      | nil => simp [ltCps]
      | cons d t =>
        rw [ltCps, ih]
        by_cases h1 : c < d
        · simp [h1, List.cons_lt_cons_iff]
        · by_cases h2 : c = d
          · subst h2; simp [List.cons_lt_cons_iff]
          · simp [h1, h2, List.cons_lt_cons_iff]
  exact this _ _
abbrev leS (x y : Str) : Prop := ltS y x = false
theorem rising_pair : ∀ (l : List Str) (p : Str), risingS p l = true → (p :: l).Pairwise leS
  | [], p, _ => by simp
  | x :: r, p, h => by
    rw [risingS, Bool.and_eq_true, ltCps_ltS] at h
    have h1 : leS p x := by simpa using h.1
    have ih := rising_pair r x h.2
    refine List.pairwise_cons.mpr ⟨fun z hz => ?_, ih⟩
    rcases List.mem_cons.mp hz with rfl | hz
    · exact h1
    · exact ltS_trans' h1 ((List.pairwise_cons.mp ih).1 z hz)
theorem sortedS_pair : ∀ (l : List Str), sortedS l = true → l.Pairwise leS
  | [], _ => .nil
  | x :: r, h => rising_pair r x h
theorem insT_perm (x : Str) : ∀ l : List Str, (insT x l).Perm (x :: l)
  | [] => .refl _
  | y :: r => by
    unfold insT
    split
    · exact (List.Perm.cons y (insT_perm x r)).trans (List.Perm.swap x y r)
    · exact .refl _
theorem insT_pair (x : Str) : ∀ l : List Str, l.Pairwise leS → (insT x l).Pairwise leS
  | [], _ => by simp [insT]
  | y :: r, h => by
    have h' := List.pairwise_cons.mp h
    unfold insT
    split
    · rename_i hyx
      refine List.pairwise_cons.mpr ⟨fun z hz => ?_, insT_pair x r h'.2⟩
      rcases List.mem_cons.mp ((insT_perm x r).subset hz) with rfl | hz
      · exact ltS_asymm hyx
      · exact h'.1 z hz
    · rename_i hyx
      have hxy : leS x y := by simpa using hyx
      refine List.pairwise_cons.mpr ⟨fun z hz => ?_, h⟩
      rcases List.mem_cons.mp hz with rfl | hz
      · exact hxy
      · exact ltS_trans' hxy (h'.1 z hz)
theorem tsort_perm : ∀ l : List Str, (tsort l).Perm l
  | [] => .refl _
  | x :: r => (insT_perm x _).trans (List.Perm.cons x (tsort_perm r))
theorem tsort_pair : ∀ l : List Str, (tsort l).Pairwise leS
  | [] => .nil
  | x :: r => insT_pair x _ (tsort_pair r)
theorem tsort_unique {a l : List Str} (p : a.Perm l) (ha : sortedS a = true) : a = tsort l :=
  (p.trans (tsort_perm l).symm).eq_of_pairwise (fun x y _ _ h1 h2 => ltS_anti h1 h2) (sortedS_pair a ha) (tsort_pair l)
theorem insU_mem (x z : Str) : ∀ l : List Str, z ∈ insU x l ↔ z = x ∨ z ∈ l
  | [] => by simp [insU]
  | y :: r => by
    unfold insU
    split
    · rename_i h; subst h; simp
    · split
      · rw [List.mem_cons, insU_mem x z r, List.mem_cons]
        constructor
        · rintro (h | h | h)
          · exact .inr (.inl h)
          · exact .inl h
          · exact .inr (.inr h)
        · rintro (h | h | h)
          · exact .inr (.inl h)
          · exact .inl h
          · exact .inr (.inr h)
      · simp
theorem usort_mem (z : Str) : ∀ l : List Str, z ∈ usort l ↔ z ∈ l
  | [] => by simp [usort]
  | x :: r => by rw [usort, insU_mem, usort_mem z r, List.mem_cons]
theorem insU_lt (x : Str) : ∀ l : List Str, l.Pairwise (fun a b => ltS a b = true) → (insU x l).Pairwise (fun a b => ltS a b = true)
  | [], _ => by simp [insU]
  | y :: r, h => by
    have h' := List.pairwise_cons.mp h
    unfold insU
    split
    · exact h
    · rename_i hne
      split
      · rename_i hyx
        refine List.pairwise_cons.mpr ⟨fun z hz => ?_, insU_lt x r h'.2⟩
        rcases (insU_mem x z r).mp hz with rfl | hz
        · exact hyx
        · exact h'.1 z hz
      · rename_i hyx
        have hxy : ltS x y = true := by
          cases q : ltS x y with
          | true => rfl
          | false => exact absurd (ltS_anti (by simpa using hyx) q) hne
        refine List.pairwise_cons.mpr ⟨fun z hz => ?_, h⟩
        rcases List.mem_cons.mp hz with rfl | hz
        · exact hxy
        · have := h'.1 z hz
          unfold ltS at *
          exact decide_eq_true (List.lt_trans (of_decide_eq_true hxy) (of_decide_eq_true this))
theorem usort_lt : ∀ l : List Str, (usort l).Pairwise (fun a b => ltS a b = true)
  | [] => .nil
  | x :: r => insU_lt x _ (usort_lt r)
theorem usort_nodup (l : List Str) : (usort l).Nodup := (usort_lt l).imp fun {a b} h e => by
  subst e
  rw [ltS_irr] at h
  cases h
theorem usort_unique {a l : List Str} (ha : sortedS a = true) (hn : a.Nodup) (hm : ∀ k, k ∈ a ↔ k ∈ l) : a = usort l := by
  have p : a.Perm (usort l) := (List.perm_ext_iff_of_nodup hn (usort_nodup l)).mpr fun k => (hm k).trans (usort_mem k l).symm
  exact p.eq_of_pairwise (fun x y _ _ h1 h2 => ltS_anti h1 h2) (sortedS_pair a ha) ((usort_lt l).imp fun h => ltS_asymm h)
theorem nodup_len : ∀ {a b : List Str}, a.Nodup → (∀ k ∈ a, k ∈ b) → a.length ≤ b.length
  | [], _, _, _ => by simp
  | x :: r, b, hn, hm => by
    have h' := List.nodup_cons.mp hn
    have hx := hm x (by simp)
    have := nodup_len (a := r) (b := b.erase x) h'.2 fun k hk => (List.mem_erase_of_ne (fun e : k = x => h'.1 (by rw [← e]; exact hk))).mpr (hm k (by simp [hk]))
    rw [List.length_erase_of_mem hx] at this
    have hp := List.length_pos_of_mem hx
    rw [List.length_cons]
    omega
theorem usort_room {l a : List Str} (hn : a.Nodup) (hm : ∀ k ∈ a, k ∈ l) : a.length ≤ (usort l).length :=
  nodup_len hn fun k hk => (usort_mem k l).mpr (hm k hk)
theorem imin_mem : ∀ (r : List Int) (x : Int), imin x r ∈ x :: r
  | [], x => by simp [imin]
  | y :: r, x => by
    unfold imin
    have := imin_mem r (if y < x then y else x)
    rcases List.mem_cons.mp this with e | e
    · rw [e]; split <;> simp
    · simp [e]
theorem imin_le : ∀ (r : List Int) (x : Int), ∀ y ∈ x :: r, imin x r ≤ y
  | [], x, y, h => by simp at h; simp [imin, h]
  | z :: r, x, y, h => by
    unfold imin
    have ih := imin_le r (if z < x then z else x)
    have h0 := ih _ (List.mem_cons_self)
    rcases List.mem_cons.mp h with rfl | h
    · refine Int.le_trans h0 ?_; split <;> omega
    · rcases List.mem_cons.mp h with rfl | h
      · refine Int.le_trans h0 ?_; split <;> omega
      · exact ih y (List.mem_cons_of_mem _ h)
theorem imax_mem : ∀ (r : List Int) (x : Int), imax x r ∈ x :: r
  | [], x => by simp [imax]
  | y :: r, x => by
    unfold imax
    have := imax_mem r (if x < y then y else x)
    rcases List.mem_cons.mp this with e | e
    · rw [e]; split <;> simp
    · simp [e]
theorem imax_ge : ∀ (r : List Int) (x : Int), ∀ y ∈ x :: r, y ≤ imax x r
  | [], x, y, h => by simp at h; simp [imax, h]
  | z :: r, x, y, h => by
    unfold imax
    have ih := imax_ge r (if x < z then z else x)
    have h0 := ih _ (List.mem_cons_self)
    rcases List.mem_cons.mp h with rfl | h
    · refine Int.le_trans ?_ h0; split <;> omega
    · rcases List.mem_cons.mp h with rfl | h
      · refine Int.le_trans ?_ h0; split <;> omega
      · exact ih y (List.mem_cons_of_mem _ h)

def biName : Bi → Str
  | .len => "len" | .abs => "abs" | .int => "int" | .tuple => "tuple" | .list => "list" | .all => "all" | .any => "any"
  | .min1 => "min" | .max1 => "max" | .min2 => "min" | .max2 => "max" | .sum => "sum" | .sorted => "sorted" | .str => "str" | .ord => "ord" | .dict => "dict" | .isinst => "isinstance" | .set => "set"
def biVal : Bi → Value
  | .len => .builtin "len" | .abs => .builtin "abs" | .int => .type "int" | .tuple => .type "tuple" | .list => .type "list" | .all => .builtin "all" | .any => .builtin "any"
  | .min1 => .builtin "min" | .max1 => .builtin "max" | .min2 => .builtin "min" | .max2 => .builtin "max" | .sum => .builtin "sum" | .sorted => .builtin "sorted" | .str => .type "str" | .ord => .builtin "ord" | .dict => .type "dict" | .isinst => .builtin "isinstance" | .set => .type "set"

section
variable {X : Cx} {G : Prog} {st : Sto} {d : D}
theorem reps1 {K : PySem.W.Frag} {mg : Str → Option Value} {m : Mp} {H : Hp} {x : D} {vs : List V} (r : Reps K mg G m H [x] vs) : ∃ v, vs = [v] ∧ Rep K mg G m H x v := by
  cases r with | cons a t => cases t; exact ⟨_, rfl, a⟩
theorem reps2 {K : PySem.W.Frag} {mg : Str → Option Value} {m : Mp} {H : Hp} {x y : D} {vs : List V} (r : Reps K mg G m H [x, y] vs) : ∃ v u, vs = [v, u] ∧ Rep K mg G m H x v ∧ Rep K mg G m H y u := by
  cases r with | cons a t => cases t with | cons b t => cases t; exact ⟨_, _, rfl, a, b⟩
theorem bools_rep {K : PySem.W.Frag} {mg : Str → Option Value} {m : Mp} {H : Hp} : ∀ {ds : List D} {vs : List V} {bs : List Bool}, toBools ds = some bs → Reps K mg G m H ds vs → vs = bs.map V.bl
  | [], _, bs, e, .nil => by simp [toBools] at e; subst e; rfl
  | d :: ds, _, bs, e, .cons a t => by
    cases a <;> simp [toBools] at e
    obtain ⟨r, e, rfl⟩ := e
    rw [bools_rep e t]; rfl
theorem ints_rep {K : PySem.W.Frag} {mg : Str → Option Value} {m : Mp} {H : Hp} : ∀ {ds : List D} {vs : List V} {bs : List Int}, toInts ds = some bs → Reps K mg G m H ds vs → vs = bs.map V.int
  | [], _, bs, e, .nil => by simp [toInts] at e; subst e; rfl
  | d :: ds, _, bs, e, .cons a t => by
    cases a <;> simp [toInts] at e
    obtain ⟨r, e, rfl⟩ := e
    rw [ints_rep e t]; rfl
theorem strs_rep {K : PySem.W.Frag} {mg : Str → Option Value} {m : Mp} {H : Hp} : ∀ {ds : List D} {vs : List V} {bs : List Str}, toStrs ds = some bs → Reps K mg G m H ds vs → vs = bs.map V.str ∧ ∀ x ∈ bs, StrOk x
  | [], _, bs, e, .nil => by simp [toStrs] at e; subst e; simp
  | d :: ds, _, bs, e, .cons a t => by
    cases a <;> simp [toStrs] at e
    rename_i x hx
    obtain ⟨r, e, rfl⟩ := e
    obtain ⟨h1, h2⟩ := strs_rep e t
    rw [h1]
    refine ⟨rfl, fun y hy => ?_⟩
    rcases List.mem_cons.mp hy with rfl | hy
    · exact hx
    · exact h2 y hy
theorem Reps.strs {K : PySem.W.Frag} {mg : Str → Option Value} {m : Mp} {H : Hp} : ∀ {ss : List Str}, (∀ x ∈ ss, StrOk x) → Reps K mg G m H (ss.map D.str) (ss.map V.str)
  | [], _ => .nil
  | x :: r, h => .cons (.str (h x (by simp))) (Reps.strs fun y hy => h y (by simp [hy]))
theorem smin_mem : ∀ (r : List Str) (x : Str), EvSet.smin x r ∈ x :: r
  | [], x => by simp [EvSet.smin]
  | y :: r, x => by
    have := smin_mem r (if decide (y.cps.toList < x.cps.toList) = true then y else x)
    unfold EvSet.smin at *
    rw [List.foldl_cons]
    rcases List.mem_cons.mp this with e | e
    · rw [e]; split <;> simp
    · exact List.mem_cons_of_mem _ (List.mem_cons_of_mem _ e)
theorem smax_mem : ∀ (r : List Str) (x : Str), EvSet.smax x r ∈ x :: r
  | [], x => by simp [EvSet.smax]
  | y :: r, x => by
    have := smax_mem r (if decide (x.cps.toList < y.cps.toList) = true then y else x)
    unfold EvSet.smax at *
    rw [List.foldl_cons]
    rcases List.mem_cons.mp this with e | e
    · rw [e]; split <;> simp
    · exact List.mem_cons_of_mem _ (List.mem_cons_of_mem _ e)
theorem tyD_ok {fls : List Nat} {m : Mp} {H : Hp} {t : String} {d : D} {v : V} (R : RelX X G fls st m H) (r : RepX X G m H d v) (e : tyD (view st d) = some t) : TyX X.K H v (.type t) := by
  cases r with
  | non => cases e; exact .base .non
  | bl b => cases e; exact .base (.bl b)
  | int i => cases e; exact .base (.int i)
  | str h => cases e; exact .base (.str _)
  | tup n h r => cases e; exact .base (.tup h)
  | tk h r => cases e; obtain ⟨o, its, n, h1, h2, _⟩ := h; exact .kTuple h1 h2
  | lst n h r => cases e; exact .base (.lst h)
  | fz n h r => cases e; exact .base (.frz h)
  | fzK h r => cases e; obtain ⟨o, its, n, h1, h2, _⟩ := h; exact .kList h1 h2
  | dk n h r => cases e; exact .base (.dK h)
  | dt n h r => cases e; exact .base (.dT h)
  | @ref n p h =>
    unfold view at e
    simp only at e
    cases hs : st[n]? with
    | none => rw [hs] at e; cases e; have := R.len; have h2 := (List.getElem?_eq_some_iff.mp h).1; rw [List.getElem?_eq_none_iff] at hs; omega
    | some c =>
      rw [hs] at e
      obtain ⟨o, h1, h2⟩ := R.cell n c p hs h
      cases h2 with
      | lst r => cases e; exact .base (.lst h1)
      | dk r => cases e; exact .base (.dK h1)
      | dt r => cases e; exact .base (.dT h1)
  | fn _ _ => cases e
  | ty n => cases e
theorem str_of_ok (t : String) : StrOk (Str.ofString t) := by
  rw [Str.ofString_eq_toList]
  show ((t.toList.map Char.toNat).toArray.all _) = true
  rw [List.all_toArray, List.all_eq_true]
  intro c hc
  obtain ⟨ch, _, rfl⟩ := List.mem_map.mp hc
  have := ch.valid
  apply decide_eq_true
  have h2 : ch.toNat = ch.val.toNat := rfl
  rw [h2]
  unfold UInt32.isValidChar Nat.isValidChar at this
  omega
theorem str_int_ok (i : Int) : StrOk (toString i : Str) := str_of_ok _
theorem biD_ok {n : Bi} {as : List D} (hc : X.calm = true) (hu : X.A.units + 65 < cLine) (e : biD st n as = some d) : ∃ r, CallR X (biVal n) r ∧
    ∀ fls m H vs Q, RelX X G fls st m H → Reps X.K X.mg G m H as vs → QDX X G fls st m H d Q → r vs H Q := by
  unfold biD at e
  split at e
  · -- len
    refine ⟨_, call_len, fun fls m H vs Q R rs q => ?_⟩
    obtain ⟨v, rfl, r⟩ := reps1 rs
    split at e
    · rename_i ev
      cases e
      obtain ⟨p, vs, rfl, hp, r1⟩ := R.lst r ev
      exact ⟨_, _, rfl, .inl ⟨_, SqL.of hp, rfl⟩, by rw [← r1.length]; exact QV.here q R (.int _)⟩
    · rename_i ev
      cases e
      obtain ⟨p, vs, rfl, hp, r1⟩ := R.tup r ev
      exact ⟨_, _, rfl, .inr ⟨_, SqT.of hp, rfl⟩, by rw [← r1.length]; exact QV.here q R (.int _)⟩
    · rename_i ev
      cases e
      obtain ⟨p, vs, rfl, hp, r1⟩ := R.fz r ev
      exact ⟨_, _, rfl, .inl ⟨_, hp, rfl⟩, by rw [← r1.length]; exact QV.here q R (.int _)⟩
    · rename_i ev
      cases e
      obtain ⟨p, vs, rfl, hp, r1⟩ := R.tk r ev
      exact ⟨_, _, rfl, .inr ⟨_, hp, rfl⟩, by rw [← r1.length]; exact QV.here q R (.int _)⟩
    · rename_i x ev
      split at e
      · rename_i hz
        cases e
        obtain ⟨rfl, _⟩ := R.str r ev
        exact ⟨_, _, rfl, ⟨by rw [← SZ_eq]; exact hz, rfl⟩, QV.here q R (.int _)⟩
      · cases e
    · cases e
  · cases e
    refine ⟨_, call_abs, fun fls m H vs Q R rs q => ?_⟩
    obtain ⟨v, rfl, r⟩ := reps1 rs
    cases r
    exact ⟨_, rfl, QV.here q R (.int _)⟩
  · cases e
    refine ⟨_, call_int1, fun fls m H vs Q R rs q => ?_⟩
    obtain ⟨v, rfl, r⟩ := reps1 rs
    cases r
    exact .inl ⟨_, rfl, QV.here q R (.int _)⟩
  · cases e
    refine ⟨_, call_int1, fun fls m H vs Q R rs q => ?_⟩
    obtain ⟨v, rfl, r⟩ := reps1 rs
    cases r
    exact .inr ⟨_, rfl, QV.here q R (.int _)⟩
  · -- tuple
    refine ⟨_, call_tuple_of, fun fls m H vs Q R rs q => ?_⟩
    obtain ⟨v, rfl, r⟩ := reps1 rs
    split at e
    · rename_i ev
      cases e
      obtain ⟨p, vs, rfl, hp, r1⟩ := R.lst r ev
      exact ⟨_, _, rfl, .inl ⟨SqL.of hp, fun l hl => QV.tup q R r1 hl⟩⟩
    · rename_i ev
      cases e
      have e2 := R.tupS r ev
      obtain ⟨p, vs, rfl, hp, r1⟩ := R.tup r ev
      exact ⟨_, _, rfl, .inr ⟨SqT.of hp, QV.here q R (e2 ▸ r)⟩⟩
    · cases e
  · -- list
    refine ⟨_, call_list_of, fun fls m H vs Q R rs q => ?_⟩
    obtain ⟨v, rfl, r⟩ := reps1 rs
    split at e
    · rename_i ev
      cases e
      obtain ⟨p, vs, rfl, hp, r1⟩ := R.lst r ev
      exact ⟨_, _, rfl, .inl (SqL.of hp), fun l hl => QF.lst q R r1 hl⟩
    · rename_i ev
      cases e
      obtain ⟨p, vs, rfl, hp, r1⟩ := R.tup r ev
      exact ⟨_, _, rfl, .inr (SqT.of hp), fun l hl => QF.lst q R r1 hl⟩
    · cases e
  · -- all
    refine ⟨_, cr_all hc, fun fls m H vs Q R rs q => ?_⟩
    obtain ⟨v, rfl, r⟩ := reps1 rs
    split at e
    · rename_i ev
      simp only [Option.map_eq_some_iff] at e
      obtain ⟨bs, eb, rfl⟩ := e
      obtain ⟨p, vs, rfl, hp, r1⟩ := R.lst r ev
      have := bools_rep eb r1
      subst this
      exact ⟨_, bs, rfl, SqL.of hp, QV.here q R (.bl _)⟩
    · cases e
  · -- any
    refine ⟨_, cr_any hc, fun fls m H vs Q R rs q => ?_⟩
    obtain ⟨v, rfl, r⟩ := reps1 rs
    split at e
    · rename_i ev
      simp only [Option.map_eq_some_iff] at e
      obtain ⟨bs, eb, rfl⟩ := e
      obtain ⟨p, vs, rfl, hp, r1⟩ := R.lst r ev
      have := bools_rep eb r1
      subst this
      exact ⟨_, bs, rfl, SqL.of hp, QV.here q R (.bl _)⟩
    · cases e
  · cases e
    refine ⟨_, call_min2 hc, fun fls m H vs Q R rs q => ?_⟩
    obtain ⟨v, u, rfl, r, r'⟩ := reps2 rs
    cases r; cases r'
    exact ⟨_, _, rfl, QV.here q R (.int _)⟩
  · cases e
    refine ⟨_, call_max2 hc, fun fls m H vs Q R rs q => ?_⟩
    obtain ⟨v, u, rfl, r, r'⟩ := reps2 rs
    cases r; cases r'
    exact ⟨_, _, rfl, QV.here q R (.int _)⟩
  · -- min
    split at e
    · rename_i ev
      split at e
      · rename_i x rr eb
        cases e
        refine ⟨_, cr_min hc, fun fls m H vs Q R rs q => ?_⟩
        obtain ⟨v, rfl, r⟩ := reps1 rs
        obtain ⟨p, vs, rfl, hp, r1⟩ := R.lst r ev
        have := ints_rep eb r1
        subst this
        refine ⟨_, x :: rr, rfl, SqL.of hp, by simp, fun k hk hle => ?_⟩
        have e2 : k = imin x rr := Int.le_antisymm (hle _ (imin_mem rr x)) (imin_le rr x k hk)
        rw [e2]; exact QV.here q R (.int _)
      · cases e
      · split at e
        · rename_i x rr eb
          cases e
          refine ⟨_, EvSet.cr_minTx hc hu, fun fls m H vs Q R rs q => ?_⟩
          obtain ⟨v, rfl, r⟩ := reps1 rs
          obtain ⟨p, vs, rfl, hp, r1⟩ := R.lst r ev
          obtain ⟨e3, hok⟩ := strs_rep eb r1
          subst e3
          exact ⟨_, x, rr, rfl, SqL.of hp, QV.here q R (.str (hok _ (smin_mem rr x)))⟩
        · cases e
    · cases e
  · -- max
    split at e
    · rename_i ev
      split at e
      · rename_i x rr eb
        cases e
        refine ⟨_, cr_max hc, fun fls m H vs Q R rs q => ?_⟩
        obtain ⟨v, rfl, r⟩ := reps1 rs
        obtain ⟨p, vs, rfl, hp, r1⟩ := R.lst r ev
        have := ints_rep eb r1
        subst this
        refine ⟨_, x :: rr, rfl, SqL.of hp, by simp, fun k hk hle => ?_⟩
        have e2 : k = imax x rr := Int.le_antisymm (imax_ge rr x k hk) (hle _ (imax_mem rr x))
        rw [e2]; exact QV.here q R (.int _)
      · cases e
      · split at e
        · rename_i x rr eb
          cases e
          refine ⟨_, EvSet.cr_maxTx hc hu, fun fls m H vs Q R rs q => ?_⟩
          obtain ⟨v, rfl, r⟩ := reps1 rs
          obtain ⟨p, vs, rfl, hp, r1⟩ := R.lst r ev
          obtain ⟨e3, hok⟩ := strs_rep eb r1
          subst e3
          exact ⟨_, x, rr, rfl, SqL.of hp, QV.here q R (.str (hok _ (smax_mem rr x)))⟩
        · cases e
    · cases e
  · -- sum
    split at e
    · rename_i ev
      refine ⟨_, cr_sum hc, fun fls m H vs Q R rs q => ?_⟩
      obtain ⟨v, rfl, r⟩ := reps1 rs
      simp only [Option.map_eq_some_iff] at e
      obtain ⟨bs, eb, rfl⟩ := e
      obtain ⟨p, vs, rfl, hp, r1⟩ := R.lst r ev
      have := ints_rep eb r1
      subst this
      exact ⟨_, bs, rfl, SqL.of hp, QV.here q R (.int _)⟩
    · rename_i ev
      refine ⟨_, EvSet.cr_sumT hc, fun fls m H vs Q R rs q => ?_⟩
      obtain ⟨v, rfl, r⟩ := reps1 rs
      simp only [Option.map_eq_some_iff] at e
      obtain ⟨bs, eb, rfl⟩ := e
      obtain ⟨p, vs, rfl, hp, r1⟩ := R.tup r ev
      have := ints_rep eb r1
      subst this
      exact ⟨_, bs, rfl, SqT.of hp, QV.here q R (.int _)⟩
    · cases e
  · -- sorted
    split at e
    · rename_i ev
      split at e
      · rename_i bs eb
        cases e
        refine ⟨_, cr_sortedI, fun fls m H vs Q R rs q => ?_⟩
        obtain ⟨v, rfl, r⟩ := reps1 rs
        obtain ⟨p, vs, rfl, hp, r1⟩ := R.lst r ev
        have := ints_rep eb r1
        subst this
        refine ⟨_, bs, rfl, SqL.of hp, fun ns' p' hp1 hs1 hn => ?_⟩
        have e2 : ns' = isort bs := sorted_unique (hp1.trans (isort_perm bs).symm) hs1 (isort_pair bs)
        rw [e2]
        exact QF.lst q R (Reps.ints _) hn
      · simp only [Option.map_eq_some_iff] at e
        obtain ⟨bs, eb, rfl⟩ := e
        refine ⟨_, EvSet.cr_sortTx, fun fls m H vs Q R rs q => ?_⟩
        obtain ⟨v, rfl, r⟩ := reps1 rs
        obtain ⟨p, vs, rfl, hp, r1⟩ := R.lst r ev
        obtain ⟨e3, hok⟩ := strs_rep eb r1
        subst e3
        refine ⟨_, bs, rfl, SqL.of hp, fun ys p' hp1 hs1 hn => ?_⟩
        have e2 : ys = tsort bs := tsort_unique hp1 hs1
        rw [e2]
        exact QF.lst q R (Reps.strs fun x hx => hok x ((tsort_perm bs).subset hx)) hn
    · cases e
  · -- str
    split at e
    · rename_i hz
      cases e
      refine ⟨_, call_str_int, fun fls m H vs Q R rs q => ?_⟩
      obtain ⟨v, rfl, r⟩ := reps1 rs
      cases r
      exact ⟨_, rfl, hz, QV.here q R (.str (str_int_ok _))⟩
    · cases e
  · -- ord
    split at e
    · rename_i hz
      cases e
      refine ⟨_, call_ord, fun fls m H vs Q R rs q => ?_⟩
      obtain ⟨v, rfl, r⟩ := reps1 rs
      cases r
      exact ⟨_, rfl, hz, QV.here q R (.int _)⟩
    · cases e
  · -- isinstance
    rename_i d0 t
    refine ⟨_, call_isi, fun fls m H vs Q R rs q => ?_⟩
    obtain ⟨v, u, rfl, r, r'⟩ := reps2 rs
    simp only [Option.bind_eq_some_iff, Option.map_eq_some_iff] at e
    obtain ⟨n, e1, b, e2, rfl⟩ := e
    cases r'
    exact ⟨v, _, _, _, b, rfl, .ty t, tyD_ok R r e1, kit_ty e2, QV.here q R (.bl _)⟩
  · cases e

theorem slcD_ok {x : D} {lo hi : Option Int} (e : slcD st x lo hi = some d) : ∃ r, SlR X r ∧
    ∀ fls m H v Q, RelX X G fls st m H → RepX X G m H x v → QDX X G fls st m H d Q → r v lo hi H Q := by
  unfold slcD at e
  split at e
  · rename_i xs ev
    cases e
    refine ⟨_, sl_list, fun fls m H v Q R r q => ?_⟩
    obtain ⟨p, vs, rfl, hp, r1⟩ := R.lst r ev
    refine ⟨_, _, rfl, SqL.of hp, fun p' hn => ?_⟩
    have r2 : Reps X.K X.mg G m H (cutD xs lo hi) (cutV vs lo hi) := by
      unfold cutD cutV
      rw [r1.length]
      exact (r1.drop _).take _
    exact QF.lst q R r2 hn
  · rename_i xs ev
    cases e
    refine ⟨_, sl_tupA, fun fls m H v Q R r q => ?_⟩
    have e2 := R.tupS r ev
    obtain ⟨p, vs, rfl, hp, r1⟩ := R.tup r ev
    have r2 : Reps X.K X.mg G m H (cutD xs lo hi) (cutV vs lo hi) := by
      unfold cutD cutV
      rw [r1.length]
      exact (r1.drop _).take _
    refine ⟨_, _, rfl, SqT.of hp, fun hw => ?_, fun _ p' hn => QV.tup q R r2 hn⟩
    have e3 : cutD xs lo hi = xs := by
      unfold cutD
      rw [r1.length, hw.1, hw.2, ← r1.length]
      simp
    rw [e3] at q
    exact QV.here q R (e2 ▸ r)
  · cases e
end
end Ev

set_option Elab.async false
set_option linter.all false
set_option maxRecDepth 100000
set_option maxHeartbeats 4000000
/-! Ev, part 7: own syntax stands for the program's text. -/
namespace Ev
open PySem L2 PySem.Spec
open PyProof.Rows hiding St

def visB (sc : Scope) (x : Str) : Bool := match sc.names.lookup x with
  | some .local => true | some .cell => true | some .free => true | _ => false
def locB (sc : Scope) (x : Str) : Bool := match sc.names.lookup x with
  | some .local => true | some .cell => true | _ => false
def lclB (sc : Scope) (x : Str) : Bool := match sc.names.lookup x with
  | some .local => true | _ => false
def gloB (sc : Scope) (x : Str) : Bool := match sc.names.lookup x with
  | some .globalImplicit => true | _ => false
def nameB (x : Str) : Bool := (x == ("__debug__" : Str)) == false && (x == ("__classdict__" : Str)) == false && !decide (x = "__name__")
/-- a text's codes are codes -/
def strB (x : Str) : Bool := x.cps.all fun c => decide (c < 0x110000)
def plB : Expr → Bool
  | .Starred _ _ => false
  | .Set _ _ _ => false
  | .Slice _ _ _ _ => false
  | .NamedExpr _ _ _ => false
  | .Lambda _ _ _ _ => false
  | .Yield _ _ => false
  | .YieldFrom _ _ => false
  | .Await _ _ => false
  | .GeneratorExp _ _ _ _ => false
  | .SetComp _ _ _ _ => false
  | _ => true

/-- one target: a name's slot -/
def emT1 (N : List Str) (ok : Str → Bool) (i : Nat) (e : Expr) : Bool := match e with
  | .Name x _ => decide (N[i]? = some x) && ok x
  | _ => false
def emTs (N : List Str) (ok : Str → Bool) : List Nat → List Expr → Bool
  | [], [] => true
  | i :: is, e :: es => emT1 N ok i e && emTs N ok is es
  | _, _ => false
def emTg (N : List Str) (ok : Str → Bool) (t : Tg) (e : Expr) : Bool := match t with
  | .one i => emT1 N ok i e
  | .many is => match e with
    | .Tuple es _ _ => emTs N ok is es
    | _ => false
def tgIx : Tg → List Nat
  | .one i => [i]
  | .many is => is
/-- the names of a comprehension's own slots -/
def ownN (N : List Str) : List Nat → List (Str × Nat)
  | [] => []
  | i :: is => match N[i]? with
    | some x => (x, i) :: ownN N is
    | none => ownN N is

def bmName : Bm → Str
  | .append => "append" | .extend => "extend" | .index => "index" | .get1 => "get" | .get2 => "get" | .join => "join" | .pop2 => "pop" | .bitlen => "bit_length"
/-- the built-in types that stand by their names -/
def tyNames : List (String × Str) := [("int", "int"), ("str", "str"), ("list", "list"), ("tuple", "tuple"), ("dict", "dict"), ("bool", "bool")]
/-- no call of super -/
def baseB : Expr → Bool
  | .Call (.Name _ _) [] [] _ => false
  | _ => true
mutual
/-- may stand as a test -/
def tsOk : Ex → Bool
  | .var _ => true
  | .call _ _ => true
  | .callv _ _ => true
  | .bi _ _ => true
  | .bm _ _ _ => true
  | .meth _ _ _ => true
  | .idx _ _ => true
  | .attr _ _ => true
  | .nt a => tsOk a
  | .andE as => tsOks as
  | .orE as => tsOks as
  | .cmp _ _ _ => true
  | .chain _ _ _ _ _ => true
  | .isN _ => true
  | .notN _ => true
  | .isB _ _ => true
  | .notB _ _ => true
  | _ => false
def tsOks : Exs → Bool
  | .nil => true
  | .cons a r => tsOk a && tsOks r
end
/-- it makes a new thing -/
def isF : Ex → Bool
  | .bin _ _ _ => true
  | .lstE _ => true
  | .lc _ _ _ _ _ => true
  | .slc _ _ _ => true
  | .bi .list _ => true
  | .bi .sorted _ => true
  | .sset _ => true
  | .dc _ _ _ _ _ _ => true
  | .dic0 _ => true
  | .dicE _ => true
  | .listR _ => true
  | _ => false

section
variable (G : Prog) (N : List Str)
mutual
def emE : Ex → Scope → Expr → Bool
  | .non, sc, e => match e with
    | .Constant .none _ _ => true
    | _ => false
  | .bool b, sc, e => match e with
    | .Constant (.bool c) _ _ => b == c
    | _ => false
  | .int i, sc, e => match e with
    | .Constant (.int j) _ _ => decide (i = j)
    | _ => false
  | .str x, sc, e => match e with
    | .Constant (.str y) _ _ => decide (x = y) && strB x
    | _ => false
  | .var i, sc, e => match e with
    | .Name x _ => decide (N[i]? = some x) && visB sc x && nameB x
    | _ => false
  | .gf f, sc, e => match e with
    | .Name x _ => decide ((G.fns[f]?).map (·.name) = some x) && gloB sc x && nameB x
    | _ => false
  | .gc c, sc, e => match e with
    | .Name x _ => decide ((G.cons[c]?).map (·.1) = some x) && gloB sc x && nameB x
    | _ => false
  | .tyE n, sc, e => match e with
    | .Name x _ => tyNames.any (fun t => decide (t.1 = n) && decide (x = t.2)) && gloB sc x
    | _ => false
  | .bin op a b, sc, e => match e with
    | .BinOp ea o eb _ => decide (o = opOf op) && emE a sc ea && emE b sc eb
    | _ => false
  | .neg a, sc, e => match e with
    | .UnaryOp .USub ea _ => emE a sc ea
    | _ => false
  | .nt a, sc, e => match e with
    | .UnaryOp .Not ea _ => emE a sc ea
    | _ => false
  | .andE as, sc, e => match e with
    | .BoolOp .And es _ => emEs as sc es && !es.isEmpty
    | _ => false
  | .orE as, sc, e => match e with
    | .BoolOp .Or es _ => emEs as sc es && !es.isEmpty
    | _ => false
  | .cmp op a b, sc, e => match e with
    | .Compare ea [o] [eb] _ => decide (o = copOf op) && emE a sc ea && emE b sc eb && plB eb && (behindInMarks o eb == false)
    | _ => false
  | .chain op op2 a b c, sc, e => match e with
    | .Compare ea [o, o2] [eb, ec] _ => decide (o = copOf op) && decide (o2 = copOf op2) && emE a sc ea && emE b sc eb && emE c sc ec && (lastMarks [o, o2] [eb, ec] == false)
    | _ => false
  | .isN a, sc, e => match e with
    | .Compare ea [.Is] [.Constant .none _ _] _ => emE a sc ea
    | _ => false
  | .notN a, sc, e => match e with
    | .Compare ea [.IsNot] [.Constant .none _ _] _ => emE a sc ea
    | _ => false
  | .isB a b, sc, e => match e with
    | .Compare ea [.Is] [.Constant (.bool c) _ _] _ => emE a sc ea && (b == c)
    | _ => false
  | .notB a b, sc, e => match e with
    | .Compare ea [.IsNot] [.Constant (.bool c) _ _] _ => emE a sc ea && (b == c)
    | _ => false
  | .call f as, sc, e => match e with
    | .Call (.Name x _) es [] _ => decide ((G.fns[f]?).map (·.name) = some x) && gloB sc x && nameB x && emEs as sc es && !es.isEmpty && decide ((G.fns[f]?).map (·.np) = some es.length)
    | _ => false
  | .callv i as, sc, e => match e with
    | .Call (.Name x _) es [] _ => decide (N[i]? = some x) && visB sc x && nameB x && emEs as sc es && !es.isEmpty
    | _ => false
  | .bi n as, sc, e => match e with
    | .Call (.Name x _) es [] _ => decide (x = biName n) && gloB sc x && emEs as sc es && !es.isEmpty
    | _ => false
  | .listR s, sc, e => match e with
    | .Call (.Name x _) [er] [] _ => decide (x = "list") && gloB sc x && (match s with
      | .rng1 a => (match er with
        | .Call (.Name y _) [ea] [] _ => decide (y = "range") && gloB sc y && emE a sc ea && plB ea
        | _ => false)
      | .rng2 a b => (match er with
        | .Call (.Name y _) [ea, eb] [] _ => decide (y = "range") && gloB sc y && emE a sc ea && plB ea && emE b sc eb && plB eb
        | _ => false)
      | .seq _ => false
      | .rev _ => false
      | .cel _ => false
      | .rng3 _ _ _ => false)
    | _ => false
  | .bm m o as, sc, e => match e with
    | .Call (.Attribute eo name apos) es [] cpos => decide (name = bmName m) && emE o sc eo && baseB eo && (apos.endLine == cpos.line) && emEs as sc es && !es.isEmpty && decide (es.length < 30)
    | _ => false
  | .meth m o as, sc, e => false
  | .mk c as, sc, e => false
  | .attr o f, sc, e => false
  | .idx o i, sc, e => match e with
    | .Subscript eo ei _ => emE o sc eo && emE i sc ei && plB ei
    | _ => false
  | .slc o lo hi, sc, e => match e with
    | .Subscript eo (.Slice l h none _) _ => emE o sc eo && emO lo sc l && emO hi sc h
    | _ => false
  | .tupE as, sc, e => match e with
    | .Tuple es _ _ => emEs as sc es && decide (es.length ≤ 1000)
    | _ => false
  | .lstE as, sc, e => match e with
    | .List es _ => emEs as sc es && decide (es.length ≤ 1000)
    | _ => false
  | .dicE ps, sc, e => match e with
    | .Dict ks vs _ => emPs ps sc ks vs && decide (ks.length ≤ 15) && !ks.isEmpty
    | _ => false
  | .dic0 t, sc, e => match e with
    | .Dict [] [] _ => true
    | _ => false
  | .lc elt tg src test own, sc, e => match e with
    | .ListComp eelt [⟨etg, eit, eifs, 0⟩] scope _ =>
      emE elt (relS scope sc) eelt && emTg N (locB scope) tg etg && emI src sc eit && emEs test (relS scope sc) eifs && tsOks test && plB eit && decide (eifs.length ≤ 1) &&
        blkC N sc scope (ownN N own) && (tgIx tg).all (own.contains ·) && decide ((ownN N own).map (·.2) = own)
    | _ => false
  | .box a, sc, e => isF a && emE a sc e
  | .ite c a b, sc, e => false
  | .bits a, sc, e => match e with
    | .Call (.Attribute eo name apos) [] [] cpos => decide (name = "bit_length") && emE a sc eo && baseB eo && (apos.endLine == cpos.line)
    | _ => false
  | .dix c i, sc, e => match e with
    | .Subscript (.Name x _) ei _ => decide ((G.dics[c]?).map (·.1) = some x) && gloB sc x && nameB x && emE i sc ei && plB ei
    | _ => false
  | .sset a, sc, e => match e with
    | .Call (.Name x _) [.Call (.Name y _) [ea] [] _] [] _ => decide (x = "sorted") && decide (y = "set") && gloB sc x && gloB sc y && emE a sc ea && plB ea
    | _ => false
  | .orV a b, sc, e => match e with
    | .BoolOp .Or [ea, eb] _ => emE a sc ea && emE b sc eb
    | _ => false
  | .dc k v tg src test own, sc, e => match e with
    | .DictComp ek ev [⟨etg, eit, eifs, 0⟩] scope _ =>
      emE k (relS scope sc) ek && emE v (relS scope sc) ev && emTg N (locB scope) tg etg && emI src sc eit && emEs test (relS scope sc) eifs && tsOks test && plB eit && decide (eifs.length ≤ 1) &&
        blkC N sc scope (ownN N own) && (tgIx tg).all (own.contains ·) && decide ((ownN N own).map (·.2) = own)
    | _ => false
def emEs : Exs → Scope → List Expr → Bool
  | .nil, sc, es => match es with
    | [] => true
    | _ => false
  | .cons a r, sc, es => match es with
    | e :: es => emE a sc e && plB e && emEs r sc es
    | _ => false
def emPs : Prs → Scope → List (Option Expr) → List Expr → Bool
  | .nil, sc, ks, vs => match ks, vs with
    | [], [] => true
    | _, _ => false
  | .cons a b r, sc, ks, vs => match ks, vs with
    | some k :: ks, v :: vs => emE a sc k && emE b sc v && emPs r sc ks vs
    | _, _ => false
def emO : Exs → Scope → Option Expr → Bool
  | .nil, sc, e => match e with
    | none => true
    | _ => false
  | .cons a r, sc, e => match e with
    | some e => emE a sc e && (match r with | .nil => true | _ => false)
    | _ => false
def emI : Src → Scope → Expr → Bool
  | .rng1 a, sc, e => match e with
    | .Call (.Name x _) [ea] [] _ => decide (x = "range") && gloB sc x && emE a sc ea && plB ea
    | _ => false
  | .rng2 a b, sc, e => match e with
    | .Call (.Name x _) [ea, eb] [] _ => decide (x = "range") && gloB sc x && emE a sc ea && plB ea && emE b sc eb && plB eb
    | _ => false
  | .seq a, sc, e => emE a sc e && plB e
  | .cel a, sc, e => emE a sc e && plB e
  | .rng3 a b c, sc, e => match e with
    | .Call (.Name x _) [ea, eb, ec] [] _ => decide (x = "range") && gloB sc x && emE a sc ea && plB ea && emE b sc eb && plB eb && emE c sc ec && plB ec
    | _ => false
  | .rev a, sc, e => match e with
    | .Call (.Name x _) [ea] [] _ => decide (x = "reversed") && gloB sc x && emE a sc ea && plB ea
    | _ => false
end
end

/-! ### what stands behind a call -/
/-- an exception lies in the heap as the error c with the fields fs -/
def ErrR (G : Prog) (mg : Str → Option Value) (c : Nat) (fs : List (Nat × D)) (cls : Value) (dd : Option Addr) : Prop :=
  ∃ p A, G.excs[c]? = some p ∧ mg p.1 = some (.ref A) ∧ cls = .ref A ∧ fs = [] ∧ dd = none
/-- what is known of the own error classes -/
structure ExcF (K : PySem.W.Frag) (mg : Str → Option Value) (G : Prog) : Prop where
  one : ∀ (c : Nat) p, G.excs[c]? = some p → ∃ A, mg p.1 = some (.ref A) ∧ PySem.W.keepIn K (.ref A) = true ∧ PySem.W.excIn K A [.type "ValueError", .type "Exception", .type "BaseException", .type "object"] "ValueError.__new__" = true ∧
    PySem.W.subIn K (.ref A) (.type "BaseException") = some true ∧ PySem.W.typeIn K (.ref A) = some (.type "type") ∧ ExcC K A
  two : ∀ (c : Nat) p (c' : Nat) p' A A', G.excs[c]? = some p → G.excs[c']? = some p' → mg p.1 = some (.ref A) → mg p'.1 = some (.ref A') → PySem.W.exmOne K (.ref A) (.ref A') = some (subB G c c') ∧ PySem.W.kitOne K (.ref A) (.ref A') = some (subB G c c')

/-- the outcome of a run, as what is wanted -/
def Post {α : Type} (K : PySem.W.Frag) (mg : Str → Option Value) (G : Prog) (fls : List Nat) (m : Mp) (H : Hp) (E : XK) (o : Out α) (R : α → Sto → Prop) : Prop :=
  match o with
  | .ok d st => R d st
  | .exc c fs st => ∀ cls dd m' H', Ext m H m' H' → Rel K mg G fls st m' H' → ErrR G mg c fs cls dd → E cls dd H'
  | .bad => False

/-- the promise of a def: what run says -/
def spEv (K : PySem.W.Frag) (mg : Str → Option Value) (G : Prog) (C : Nat → Nat → List D → Sto → Out D) (f : Nat) (np : Nat) : Sp := fun vs H Q E =>
  ∃ ds fls st m fl, Rel K mg G fls st m H ∧ (∀ g ∈ fls, g ≤ fl) ∧ fl ≤ st.length ∧ Reps K mg G m H ds vs ∧ ds.length = np ∧
    Post K mg G fls m H E (C fl f ds st) fun d st' => QV K mg G fls st' m H d Q

/-- what a body's context must bear -/
structure XOk (G : Prog) (C : Nat → Nat → List D → Sto → Out D) (k : Nat) (W : WX) (N : List Str) (sc : Scope) (X : Cx) : Prop where
  n : X.N = N
  nd : X.N.Nodup
  sc : X.env.scope = sc
  calm : X.calm = true
  room : Room k X.A
  tk : Takes X W
  blt : ∀ n, X.mg (biName n) = none
  rng : X.mg "range" = none
  rev : X.mg "reversed" = none
  tys : ∀ t ∈ tyNames, X.mg t.2 = none
  exc : ExcF X.K X.mg G
  fns : ∀ f F, G.fns[f]? = some F → ∃ a fd ps, X.mg F.name = some (.ref a) ∧ PySem.W.keepIn X.K (.ref a) = true ∧ ps.length = F.np ∧ Binds X.K fd ps [] ∧
    FnOk X.prog X.w X.K X.mg X.base (CX X.prog X.w) k a fd ps (spEv X.K X.mg G C f F.np)
  cons : ∀ (c : Nat) (p : Str × D), G.cons[c]? = some p → ∃ u v, X.mg p.1 = some u ∧ RelV v u ∧ ∀ m H, Rep X.K X.mg G m H p.2 v
  dics : ∀ (c : Nat) (p : Str × List (Str × D)), G.dics[c]? = some p → ∃ a, X.mg p.1 = some (.ref a) ∧ ∀ z d, p.2.lookup z = some d → ∃ v, KDct X.K X.w a z v ∧ ∀ m H, Rep X.K X.mg G m H d v
end Ev

set_option Elab.async false
set_option linter.all false
set_option maxRecDepth 100000
set_option maxHeartbeats 4000000
/-! Ev, part 8: expressions do what the evaluator says. -/
namespace Ev
open PySem L2 PySem.Spec
open PyProof.Rows hiding St

section
variable {K : PySem.W.Frag} {mg : Str → Option Value} {G : Prog} {fls : List Nat} {st : Sto} {m m1 : Mp} {H H1 : Hp}
theorem Ext.le (x : Ext m H m1 H1) : m.c.length ≤ m1.c.length := by
  by_cases h : m.c.length = 0
  · omega
  · have hl : m.c.length - 1 < m.c.length := by omega
    have := x.pre _ _ (List.getElem?_eq_getElem hl)
    have := (List.getElem?_eq_some_iff.mp this).1
    omega
theorem QV.ext {d : D} {Q : VK} (x : Ext m H m1 H1) (q : QV K mg G fls st m H d Q) : QV K mg G fls st m1 H1 d Q := fun v m' H' e R r => q v m' H' (x.trans e) R r
theorem QF.ext {d : D} {Q : VK} (x : Ext m H m1 H1) (q : QF K mg G fls st m H d Q) : QF K mg G fls st m1 H1 d Q := fun p o m' Hm e R n c => q p o m' Hm (x.trans e) R n c
theorem QD.ext {d : D} {Q : VK} (x : Ext m H m1 H1) (q : QD K mg G fls st m H d Q) : QD K mg G fls st m1 H1 d Q := by
  cases d <;> first | exact QV.ext x q | exact QF.ext x q
theorem Post.ext {α : Type} {E : XK} {o : Out α} {R : α → Sto → Prop} (x : Ext m H m1 H1) (h : Post K mg G fls m H E o R) : Post K mg G fls m1 H1 E o R := by
  cases o with
  | ok a s => exact h
  | exc c fs s => exact fun cls dd m' H' e R' r => h cls dd m' H' (x.trans e) R' r
  | bad => exact h
theorem Post.imp {α : Type} {E : XK} {o : Out α} {R R' : α → Sto → Prop} (h : Post K mg G fls m H E o R) (f : ∀ a s, R a s → R' a s) : Post K mg G fls m H E o R' := by
  cases o with
  | ok a s => exact f a s h
  | exc c fs s => exact h
  | bad => exact h
end

/-! ### rules joined -/
section
variable {X : Cx}
def rOp (X : Cx) (f : Value → Value → Sem Value) : R2 := fun v u H Q => ∃ r, OpR X f r ∧ r v u H Q
theorem opAny {f : Value → Value → Sem Value} : OpR X f (rOp X f) := fun pins s σ H x y v u Q I rx ry ⟨_, hr, h⟩ => hr pins s σ H x y v u Q I rx ry h
def rCall (X : Cx) (f : Value) : List V → Hp → VK → Prop := fun vs H Q => ∃ r, CallR X f r ∧ r vs H Q
theorem callAny {f : Value} : CallR X f (rCall X f) := fun pins s σ H vs us Q I rs ⟨_, hr, h⟩ => hr pins s σ H vs us Q I rs h
def rIx (X : Cx) : R2 := fun v u H Q => ∃ r, IxR X r ∧ r v u H Q
theorem ixAny : IxR X (rIx X) := fun value slice pins s σ H x y v u Q I rx ry ⟨_, hr, h⟩ hs => hr value slice pins s σ H x y v u Q I rx ry h hs
def rSl (X : Cx) : V → Option Int → Option Int → Hp → VK → Prop := fun v lo hi H Q => ∃ r, SlR X r ∧ r v lo hi H Q
theorem slAny : SlR X (rSl X) := fun pins s σ H x v vl vu lo hi sl Q I rx hs pl pu ⟨_, hr, h⟩ => hr pins s σ H x v vl vu lo hi sl Q I rx hs pl pu h
end

/-- a state of a body: what the evaluator knows of it -/
structure Stt (K : PySem.W.Frag) (mg : Str → Option Value) (G : Prog) (fl : Nat) (fls : List Nat) (st : Sto) (m : Mp) (H : Hp) (ρ : Env) (σ : St) : Prop where
  rel : Rel K mg G fls st m H
  flf : ∀ g ∈ fls, g ≤ fl
  fll : fl ≤ st.length
  env : EnvR K mg G m H ρ σ
/-- the items of a walk: J yields them one by one, while what is frozen stands -/
structure ItOk (K : PySem.W.Frag) (mg : Str → Option Value) (G : Prog) (src : Src) (J : It) (xs : List D) (m : Mp) (H : Hp) : Prop where
  go : ∀ fls st2 m2 H2, Grow m H m2 H2 → Rel K mg G fls st2 m2 H2 → ∀ (i : Nat) d d', (srcIts src xs)[i]? = some d → srcRes src st2 d = some d' → J.go i H2 ∧ ∀ v H3, J.yld i H2 v H3 → H3 = H2 ∧ Rep K mg G m2 H2 d' v
  stop : ∀ fls st2 m2 H2, Grow m H m2 H2 → Rel K mg G fls st2 m2 H2 → srcEnd src xs st2 = true → ∀ i : Nat, (srcIts src xs).length ≤ i → J.stop i H2
/-- a walk over what stays -/
theorem ItOk.of {K : PySem.W.Frag} {mg : Str → Option Value} {G : Prog} {src : Src} {J : It} {xs : List D} {m : Mp} {H : Hp} (hs : ∀ st x, srcRes src st x = some x ∧ ∀ xs, srcIts src xs = xs)
    (go : ∀ m2 H2, Grow m H m2 H2 → ∀ (i : Nat) d, xs[i]? = some d → J.go i H2 ∧ ∀ v H3, J.yld i H2 v H3 → H3 = H2 ∧ Rep K mg G m2 H2 d v) (stop : ∀ m2 H2, Grow m H m2 H2 → ∀ i : Nat, xs.length ≤ i → J.stop i H2) : ItOk K mg G src J xs m H :=
  ⟨fun _ st2 m2 H2 g _ i d d' e e' => by rw [(hs st2 d).1] at e'; rw [(hs st2 d).2] at e; cases e'; exact go m2 H2 g i d e, fun _ st2 m2 H2 g _ _ i h => by rw [(hs st2 .non).2] at h; exact stop m2 H2 g i h⟩
/-! ### the readings -/
section
variable (X : Cx) (G : Prog) (C : Nat → Nat → List D → Sto → Out D) (fl : Nat) (W : WX)
def tE (x : Ex) : TE := fun σ H Q => ∃ ρ fls st m, Stt X.K X.mg G fl fls st m H ρ σ ∧
  Post X.K X.mg G fls m H (WE W σ) (evE G (C fl) fl ρ x st) fun d st' => QV X.K X.mg G fls st' m H d Q
/-- the same for a fresh thing -/
def tF (x : Ex) : TE := fun σ H Q => ∃ ρ fls st m, Stt X.K X.mg G fl fls st m H ρ σ ∧
  Post X.K X.mg G fls m H (WE W σ) (evE G (C fl) fl ρ x st) fun d st' => QD X.K X.mg G fls st' m H d Q
def tAs (x : Exs) : TA := fun σ H Q => ∃ ρ fls st m, Stt X.K X.mg G fl fls st m H ρ σ ∧
  Post X.K X.mg G fls m H (WE W σ) (evEs G (C fl) fl ρ x st) fun ds st' => ∀ vs m' H', Ext m H m' H' → Rel X.K X.mg G fls st' m' H' → Reps X.K X.mg G m' H' ds vs → Q vs H'
def tPs (x : Prs) : St → Hp → (List (V × V) → Hp → Prop) → Prop := fun σ H Q => ∃ ρ fls st m, Stt X.K X.mg G fl fls st m H ρ σ ∧
  Post X.K X.mg G fls m H (WE W σ) (evPs G (C fl) fl ρ x st) fun kds st' => ∀ kvs m' H', Ext m H m' H' → Rel X.K X.mg G fls st' m' H' → RepK X.K X.mg G m' H' kds kvs → Q (kvs.map fun kv => (kV kv.1, kv.2)) H'
/-- a test -/
def tT (x : Ex) : TT := fun σ H Q => ∃ ρ fls st m, Stt X.K X.mg G fl fls st m H ρ σ ∧
  Post X.K X.mg G fls m H (WE W σ) (evE G (C fl) fl ρ x st) fun d st' => ∃ b, d = .bl b ∧ ∀ m' H', Ext m H m' H' → Rel X.K X.mg G fls st' m' H' → Q b H'
def tAndX (x : Exs) : TE := fun σ H Q => ∃ ρ fls st m, Stt X.K X.mg G fl fls st m H ρ σ ∧
  Post X.K X.mg G fls m H (WE W σ) (evAnd G (C fl) fl ρ x st) fun d st' => QV X.K X.mg G fls st' m H d Q
def tOrX (x : Exs) : TE := fun σ H Q => ∃ ρ fls st m, Stt X.K X.mg G fl fls st m H ρ σ ∧
  Post X.K X.mg G fls m H (WE W σ) (evOr G (C fl) fl ρ x st) fun d st' => QV X.K X.mg G fls st' m H d Q
def tAndT (x : Exs) : TT := fun σ H Q => ∃ ρ fls st m, Stt X.K X.mg G fl fls st m H ρ σ ∧
  Post X.K X.mg G fls m H (WE W σ) (evAnd G (C fl) fl ρ x st) fun d st' => ∃ b, d = .bl b ∧ ∀ m' H', Ext m H m' H' → Rel X.K X.mg G fls st' m' H' → Q b H'
def tOrT (x : Exs) : TT := fun σ H Q => ∃ ρ fls st m, Stt X.K X.mg G fl fls st m H ρ σ ∧
  Post X.K X.mg G fls m H (WE W σ) (evOr G (C fl) fl ρ x st) fun d st' => ∃ b, d = .bl b ∧ ∀ m' H', Ext m H m' H' → Rel X.K X.mg G fls st' m' H' → Q b H'
def tTs (x : Exs) : TT := fun σ H Q => ∃ ρ fls st m, Stt X.K X.mg G fl fls st m H ρ σ ∧
  Post X.K X.mg G fls m H (WE W σ) (evT G (C fl) fl ρ x st) fun b st' => ∀ m' H', Ext m H m' H' → Rel X.K X.mg G fls st' m' H' → Q b H'
/-- a slice's part -/
def tPo (x : Exs) : TO := fun σ H Q => ∃ ρ fls st m, Stt X.K X.mg G fl fls st m H ρ σ ∧
  Post X.K X.mg G fls m H (WE W σ) (evEs G (C fl) fl ρ x st) fun ds st' => ∃ o, optI ds = some o ∧ ∀ m' H', Ext m H m' H' → Rel X.K X.mg G fls st' m' H' → Q o H'
def tI (x : Src) : TI := fun σ H R => ∃ ρ fls st m, Stt X.K X.mg G fl fls st m H ρ σ ∧
  Post X.K X.mg G fls m H (WE W σ) (evI G (C fl) fl ρ x st) fun xs st' => ∀ J m' H', Ext m H m' H' → Rel X.K X.mg G fls st' m' H' → ItOk X.K X.mg G x J xs m' H' → R J H'
end

section
variable {X : Cx} {G : Prog} {C : Nat → Nat → List D → Sto → Out D} {fl : Nat} {W : WX} {fls : List Nat} {st : Sto} {m : Mp} {H : Hp} {ρ : Env} {σ : St}
theorem Stt.ext (S : Stt X.K X.mg G fl fls st m H ρ σ) {m1 : Mp} {H1 : Hp} {st1 : Sto} (x : Ext m H m1 H1) (R : Rel X.K X.mg G fls st1 m1 H1) : Stt X.K X.mg G fl fls st1 m1 H1 ρ σ :=
  ⟨R, S.flf, by have := x.le; rw [S.rel.len, R.len] at this; exact Nat.le_trans S.fll this, S.env.ext x⟩
/-- one part, then the rest -/
theorem t1 {α : Type} {a : Ex} {f : D → Sto → Out α} {R : α → Sto → Prop} {P : V → Hp → Prop} (S : Stt X.K X.mg G fl fls st m H ρ σ)
    (h : Post X.K X.mg G fls m H (WE W σ) ((evE G (C fl) fl ρ a st).bind f) R)
    (k : ∀ x st1 v m1 H1, Ext m H m1 H1 → Stt X.K X.mg G fl fls st1 m1 H1 ρ σ → Rep X.K X.mg G m1 H1 x v → Post X.K X.mg G fls m1 H1 (WE W σ) (f x st1) R → P v H1) : tE X G C fl W a σ H P := by
  refine ⟨ρ, fls, st, m, S, ?_⟩
  cases e : evE G (C fl) fl ρ a st with
  | ok x st1 =>
    rw [e] at h
    exact fun v m1 H1 e1 R1 r1 => k x st1 v m1 H1 e1 (S.ext e1 R1) r1 (Post.ext e1 h)
  | exc c fs s1 =>
    rw [e] at h
    exact h
  | bad =>
    rw [e] at h
    exact h
theorem tl1 {α : Type} {a : Exs} {f : List D → Sto → Out α} {R : α → Sto → Prop} {P : List V → Hp → Prop} (S : Stt X.K X.mg G fl fls st m H ρ σ)
    (h : Post X.K X.mg G fls m H (WE W σ) ((evEs G (C fl) fl ρ a st).bind f) R)
    (k : ∀ x st1 v m1 H1, Ext m H m1 H1 → Stt X.K X.mg G fl fls st1 m1 H1 ρ σ → Reps X.K X.mg G m1 H1 x v → Post X.K X.mg G fls m1 H1 (WE W σ) (f x st1) R → P v H1) : tAs X G C fl W a σ H P := by
  refine ⟨ρ, fls, st, m, S, ?_⟩
  cases e : evEs G (C fl) fl ρ a st with
  | ok x st1 =>
    rw [e] at h
    exact fun v m1 H1 e1 R1 r1 => k x st1 v m1 H1 e1 (S.ext e1 R1) r1 (Post.ext e1 h)
  | exc c fs s1 =>
    rw [e] at h
    exact h
  | bad =>
    rw [e] at h
    exact h
theorem tT1 {α : Type} {a : Ex} {f : D → Sto → Out α} {R : α → Sto → Prop} {P : Bool → Hp → Prop} (S : Stt X.K X.mg G fl fls st m H ρ σ)
    (h : Post X.K X.mg G fls m H (WE W σ) ((evE G (C fl) fl ρ a st).bind f) R) (hb : ∀ x st1, (∀ b, x ≠ .bl b) → f x st1 = .bad)
    (k : ∀ b st1 m1 H1, Ext m H m1 H1 → Stt X.K X.mg G fl fls st1 m1 H1 ρ σ → Post X.K X.mg G fls m1 H1 (WE W σ) (f (.bl b) st1) R → P b H1) : tT X G C fl W a σ H P := by
  refine ⟨ρ, fls, st, m, S, ?_⟩
  cases e : evE G (C fl) fl ρ a st with
  | ok x st1 =>
    rw [e] at h
    by_cases hx : ∃ b, x = .bl b
    · obtain ⟨b, rfl⟩ := hx
      exact ⟨b, rfl, fun m1 H1 e1 R1 => k b st1 m1 H1 e1 (S.ext e1 R1) (Post.ext e1 h)⟩
    · have h' : Post X.K X.mg G fls m H (WE W σ) (f x st1) R := h
      rw [hb x st1 fun b e => hx ⟨b, e⟩] at h'
      exact h'.elim
  | exc c fs s1 =>
    rw [e] at h
    exact h
  | bad =>
    rw [e] at h
    exact h
end
end Ev

set_option Elab.async false
set_option linter.all false
set_option maxRecDepth 100000
set_option maxHeartbeats 4000000
/-! Ev, part 9: targets, walks, comprehensions. -/
namespace Ev
open PySem L2 PySem.Spec
open PyProof.Rows hiding St

/-! ### targets -/
def gMany : List Nat → TGs
  | [] => gNil
  | i :: is => gCons (gName i) (gMany is)
def gT (K : PySem.W.Frag) : Tg → TG
  | .one i => gName i
  | .many is => gTup K is.length (gMany is)
theorem assignEach_name {x : Str} {p : Pos} {es : List Expr} {env : PySem.Env} : assignEach (.Name x p :: es) env = (false, assign (.Name x p) env) :: assignEach es env := rfl
section
variable {X : Cx}
theorem pg1 {N : List Str} {ok : Str → Bool} {i : Nat} {e : Expr} (h : emT1 N ok i e = true) (hN : X.N = N) (nd : X.N.Nodup)
    (hok : ∀ x, ok x = true → Loc X.env.scope x ∧ (X.fn x = true ∨ X.env.scope.names.lookup x = some .local)) : PG X e (gName i) := by
  unfold emT1 at h
  split at h
  · rename_i x p
    simp only [Bool.and_eq_true, decide_eq_true_eq] at h
    obtain ⟨h1, h2⟩ := hok x h.2
    exact pg_name nd (by rw [hN]; exact h.1) h1 h2
  · cases h
theorem pgs {N : List Str} {ok : Str → Bool} (hN : X.N = N) (nd : X.N.Nodup)
    (hok : ∀ x, ok x = true → Loc X.env.scope x ∧ (X.fn x = true ∨ X.env.scope.names.lookup x = some .local)) :
    ∀ {is : List Nat} {es : List Expr}, emTs N ok is es = true → PGs X es (gMany is) ∧ (assignEach es X.env).length = is.length ∧ (assignEach es X.env).findIdx? (·.1) = none
  | [], [], _ => ⟨pgs_nil, rfl, rfl⟩
  | [], _ :: _, h => by simp [emTs] at h
  | _ :: _, [], h => by simp [emTs] at h
  | i :: is, e :: es, h => by
    have h' : emT1 N ok i e = true ∧ emTs N ok is es = true := by simpa [emTs] using h
    obtain ⟨g1, g2, g3⟩ := pgs hN nd hok h'.2
    have g := pg1 h'.1 hN nd hok
    have h1 := h'.1
    unfold emT1 at h1
    split at h1
    · rename_i x p
      refine ⟨pgs_cons g g1, ?_, ?_⟩
      · rw [assignEach_name, List.length_cons, g2]; rfl
      · rw [assignEach_name, List.findIdx?_cons, g3]; rfl
    · cases h1
theorem pgT {N : List Str} {ok : Str → Bool} {t : Tg} {e : Expr} (h : emTg N ok t e = true) (hN : X.N = N) (nd : X.N.Nodup) (hc : X.calm = true)
    (hok : ∀ x, ok x = true → Loc X.env.scope x ∧ (X.fn x = true ∨ X.env.scope.names.lookup x = some .local)) : PG X e (gT X.K t) := by
  cases t with
  | one i => exact pg1 h hN nd hok
  | many is =>
    unfold emTg at h
    simp only at h
    split at h
    · obtain ⟨g1, g2, g3⟩ := pgs hN nd hok h
      exact pg_tup hc g1 g2 g3
    · cases h
end

section
variable {K : PySem.W.Frag} {mg : Str → Option Value} {G : Prog} {m : Mp} {H : Hp} {ρ ρ' : Env} {σ : St}
theorem EnvR.set (r : EnvR K mg G m H ρ σ) {d : D} {v : V} (q : Rep K mg G m H d v) (i : Nat) : EnvR K mg G m H (ρ.set i (some d)) (σ.set i (some v)) := by
  refine ⟨by simp [r.1], fun j e h => ?_⟩
  by_cases hj : i = j
  · subst hj
    have hl : i < ρ.length := by
      by_cases hl : i < ρ.length
      · exact hl
      · rw [List.getElem?_eq_none (by simpa using hl)] at h; cases h
    rw [List.getElem?_set_self hl] at h
    cases h
    exact ⟨v, List.getElem?_set_self (by rw [← r.1]; exact hl), q⟩
  · rw [List.getElem?_set_ne hj] at h ⊢
    exact r.2 j e h
theorem wipe_set {σ : St} {v : Option V} {i : Nat} : ∀ {vs : List Nat}, i ∈ vs → wipe (σ.set i v) vs = wipe σ vs
  | [], h => by cases h
  | j :: vs, h => by
    by_cases e : i ∈ vs
    · unfold wipe; rw [wipe_set e]
    · have hj : i = j := by
        rcases List.mem_cons.mp h with h | h
        · exact h
        · exact absurd h e
      subst hj
      have key : ∀ (ws : List Nat) (τ : St), i ∉ ws → wipe (τ.set i v) ws = (wipe τ ws).set i v := by
        intro ws
        induction ws with
        | nil => intro τ _; rfl
        | cons w ws ih =>
          intro τ hw
          have h1 : i ≠ w := fun e => hw (by rw [e]; exact List.mem_cons_self)
          have h2 : i ∉ ws := fun e => hw (List.mem_cons_of_mem _ e)
          unfold wipe
          rw [ih τ h2, List.set_comm _ _ h1]
      unfold wipe
      rw [key vs σ e, List.set_set]
theorem many_read : ∀ {is : List Nat} {ds : List D} {vs : List V} {ρ ρ' : Env} {σ : St} {Q : St → Hp → Prop}, setSlots ρ is ds = some ρ' → Reps K mg G m H ds vs → EnvR K mg G m H ρ σ →
    (∀ σ', EnvR K mg G m H ρ' σ' → (∀ ws : List Nat, (∀ i ∈ is, i ∈ ws) → wipe σ' ws = wipe σ ws) → Q σ' H) → gMany is vs σ H Q
  | [], [], _, ρ, ρ', σ, Q, e, .nil, E, k => by
    simp [setSlots] at e
    subst e
    exact ⟨rfl, k σ E fun _ _ => rfl⟩
  | i :: is, d :: ds, _, ρ, ρ', σ, Q, e, .cons (v := v) a t, E, k => by
    simp only [setSlots] at e
    refine ⟨v, _, rfl, ?_⟩
    exact many_read e t (E.set a i) fun σ' E' hw => k σ' E' fun ws hs => (hw ws fun j hj => hs j (List.mem_cons_of_mem _ hj)).trans (wipe_set (hs i List.mem_cons_self))
  | [], _ :: _, _, _, _, _, _, e, _, _, _ => by simp [setSlots] at e
  | _ :: _, [], _, _, _, _, _, e, _, _, _ => by simp [setSlots] at e
theorem asg_read {tg : Tg} {d : D} {v : V} {Q : St → Hp → Prop} (e : asg ρ tg d = some ρ') (r : Rep K mg G m H d v) (E : EnvR K mg G m H ρ σ)
    (k : ∀ σ', EnvR K mg G m H ρ' σ' → (∀ ws : List Nat, (∀ i ∈ tgIx tg, i ∈ ws) → wipe σ' ws = wipe σ ws) → Q σ' H) : gT K tg v σ H Q := by
  cases tg with
  | one i =>
    simp [asg] at e
    subst e
    exact k _ (E.set r i) fun ws hs => wipe_set (hs i (by simp [tgIx]))
  | many is =>
    have hl : ∀ {is : List Nat} {ds : List D} {ρ ρ' : Env}, setSlots ρ is ds = some ρ' → is.length = ds.length := by
      intro is
      induction is with
      | nil => intro ds ρ ρ' h; cases ds <;> simp [setSlots] at h; rfl
      | cons i is ih => intro ds ρ ρ' h; cases ds <;> simp [setSlots] at h; simp [ih h]
    simp only [asg] at e
    split at e
    · cases r with
      | tup n h rs => exact ⟨_, _, rfl, .inl (.inl h), by rw [← rs.length, hl e], many_read e rs E k⟩
    · cases r with
      | tk h rs => exact ⟨_, _, rfl, .inr h, by rw [← rs.length, hl e], many_read e rs E k⟩
    · cases e
theorem EnvR.wipe (r : EnvR K mg G m H ρ σ) : ∀ vs : List Nat, EnvR K mg G m H (wipeD ρ vs) (wipe σ vs)
  | [] => r
  | i :: vs => by
    have ih := EnvR.wipe r vs
    unfold wipeD L2.wipe
    refine ⟨by simp [ih.1], fun j e h => ?_⟩
    by_cases hj : i = j
    · subst hj
      by_cases hl : i < (wipeD ρ vs).length
      · rw [List.getElem?_set_self hl] at h; cases h
      · rw [List.getElem?_eq_none (by simpa using hl)] at h; cases h
    · rw [List.getElem?_set_ne hj] at h ⊢
      exact ih.2 j e h
end

/-! ### what is being made, hidden -/
def Mp.hide (m : Mp) (p : Addr) : Mp := ⟨m.c, p :: m.h⟩
def Mp.show (m : Mp) (h : List Addr) : Mp := ⟨m.c, h⟩
def cut (H : Hp) (p : Addr) : Hp := fun q => if q = p then none else H q
theorem cut_same {H : Hp} {p : Addr} : cut H p p = none := by unfold cut; rw [if_pos rfl]
theorem cut_ne {H : Hp} {p q : Addr} (h : q ≠ p) : cut H p q = H q := by unfold cut; rw [if_neg h]
theorem upd_cut {H : Hp} {p : Addr} {o : HO} (h : H p = some o) : upd (cut H p) p o = H := by
  funext q
  by_cases e : q = p
  · subst e; rw [upd_same, h]
  · rw [upd_ne e, cut_ne e]
theorem upd_cut' {H : Hp} {p : Addr} {o : HO} : upd (cut H p) p o = upd H p o := by
  funext q
  by_cases e : q = p
  · subst e; rw [upd_same, upd_same]
  · rw [upd_ne e, upd_ne e, cut_ne e]
section
variable {K : PySem.W.Frag} {mg : Str → Option Value} {G : Prog} {fls : List Nat} {st st' : Sto} {m m' : Mp} {H H' : Hp} {p : Addr} {o : HO}
theorem Grow.hide (h : H p = none) : Grow m H (m.hide p) (upd H p o) :=
  ⟨fun _ _ e => e, fun q u e n => by
    have hq := ne_of_none e h
    refine ⟨by rw [upd_ne hq]; exact e, fun z => ?_⟩
    rcases z with z | z
    · exact n (.inl z)
    · rcases List.mem_cons.mp z with z | z
      · exact hq z
      · exact n (.inr z)⟩
theorem Rel.hide (R : Rel K mg G fls st m H) (h : H p = none) : Rel K mg G fls st (m.hide p) (upd H p o) :=
  ⟨R.len, R.nd, fun n c q e1 e2 => by
    obtain ⟨u, a, b⟩ := R.cell n c q e1 e2
    exact ⟨u, by rw [upd_ne (ne_of_none a h)]; exact a, b.gr (Grow.hide h)⟩, fun q hq => by
    rcases List.mem_cons.mp hq with rfl | hq
    · exact ⟨fun z => R.notin h (.inl z), o, upd_same⟩
    · obtain ⟨a, u, e⟩ := R.hid q hq
      exact ⟨a, u, by rw [upd_ne (ne_of_none e h)]; exact e⟩, R.clean, R.fle⟩
/-- behind a step that left it alone, it is shown again -/
theorem Grow.show (h : m'.h = p :: m.h) : Grow m' H' (m'.show m.h) (cut H' p) :=
  ⟨fun _ _ e => e, fun q u e n => by
    have hq : q ≠ p := fun z => n (.inr (by rw [h, z]; exact List.mem_cons_self))
    refine ⟨by rw [cut_ne hq]; exact e, fun z => ?_⟩
    rcases z with z | z
    · exact n (.inl z)
    · exact n (.inr (by rw [h]; exact List.mem_cons_of_mem _ z))⟩
theorem Rel.show (R : Rel K mg G fls st' m' H') (h : m'.h = p :: m.h) (hp : p ∉ m.h) : Rel K mg G fls st' (m'.show m.h) (cut H' p) :=
  ⟨R.len, R.nd, fun n c q e1 e2 => by
    obtain ⟨u, a, b⟩ := R.cell n c q e1 e2
    have hq : q ≠ p := fun z => (R.hid p (by rw [h]; exact List.mem_cons_self)).1 (by rw [← z]; exact List.mem_of_getElem? e2)
    exact ⟨u, by rw [cut_ne hq]; exact a, b.gr (Grow.show h)⟩, fun q hq => by
    have hqp : q ≠ p := fun z => hp (by rw [← z]; exact hq)
    obtain ⟨a, u, e⟩ := R.hid q (by rw [h]; exact List.mem_cons_of_mem _ hq)
    exact ⟨a, u, by rw [cut_ne hqp]; exact e⟩, R.clean, R.fle⟩
theorem Ext.show (R : Rel K mg G fls st m H) (h : H p = none) (x : Ext (m.hide p) (upd H p o) m' H') : Ext m H (m'.show m.h) (cut H' p) ∧ H' p = some o ∧ m'.h = p :: m.h ∧ p ∉ m.h := by
  have hpm : p ∉ m.h := fun z => R.notin h (.inr z)
  refine ⟨⟨x.pre, fun q u e n => ?_, rfl, fun q hq => ?_⟩, (x.hkeep p List.mem_cons_self).trans upd_same, x.hid, hpm⟩
  · have hq := ne_of_none e h
    obtain ⟨e1, n1⟩ := x.old q u (by rw [upd_ne hq]; exact e) fun z => by
      rcases z with z | z
      · exact n (.inl z)
      · rcases List.mem_cons.mp z with z | z
        · exact hq z
        · exact n (.inr z)
    refine ⟨by rw [cut_ne hq]; exact e1, fun z => n1 ?_⟩
    rcases z with z | z
    · exact .inl z
    · exact .inr (by rw [x.hid]; exact List.mem_cons_of_mem _ z)
  · have hqp : q ≠ p := fun z => hpm (by rw [← z]; exact hq)
    rw [cut_ne hqp, x.hkeep q (List.mem_cons_of_mem _ hq), upd_ne hqp]
end

/-! ### walks -/
section
variable {X : Cx} {G : Prog} {C : Nat → Nat → List D → Sto → Out D} {fl k : Nat} {W : WX} {N : List Str} {sc : Scope}
theorem gl_of (ok : XOk G C k W N sc X) {x : Str} (h : gloB sc x = true) : Gl X x := by
  show X.env.scope.names.lookup x = _
  rw [ok.sc]
  unfold gloB at h
  split at h <;> first | assumption | cases h
theorem star_pl {e : Expr} {es : List Expr} {env : PySem.Env} (h : plB e = true) : starEach (e :: es) env = (false, eval e env) :: starEach es env := by
  cases e <;> first | rfl | (simp [plB] at h)
theorem fold_pl {e : Expr} {env : PySem.Env} (h : plB e = true) : ∀ x, foldedSetIterable e env x = pure x := by
  intro x
  cases e <;> first | rfl | (simp [plB] at h)
theorem _root_.L2.PI.im {tg it : Expr} {t t' : TI} (h : PI X tg it t) (f : ∀ σ H R, t' σ H R → t σ H R) : PI X tg it t' := ⟨fun pins s σ H R I q => h.run pins s σ H R I (f σ H R q)⟩
theorem _root_.L2.PE.im {e : Expr} {t t' : TE} (h : PE X e t) (f : ∀ σ H R, t' σ H R → t σ H R) : PE X e t' := ⟨fun pins s σ H R I q => h.run pins s σ H R I (f σ H R q)⟩
theorem _root_.L2.PT.im {e : Expr} {t t' : TT} (h : PT X e t) (f : ∀ σ H R, t' σ H R → t σ H R) : PT X e t' := ⟨fun pins s σ H R I q => h.run pins s σ H R I (f σ H R q)⟩
theorem _root_.L2.PA.im {e : List Expr} {t t' : TA} (h : PA X e t) (f : ∀ σ H R, t' σ H R → t σ H R) : PA X e t' := ⟨fun pos pins s σ H R I q => h.run pos pins s σ H R I (f σ H R q)⟩
theorem _root_.L2.PO.im {e : Option Expr} {t t' : TO} (h : PO X e t) (f : ∀ σ H R, t' σ H R → t σ H R) : PO X e t' := ⟨fun pins s σ H R I q => h.run pins s σ H R I (f σ H R q)⟩
theorem _root_.L2.PTs.im {e : List Expr} {t t' : TT} (h : PTs X e t) (f : ∀ σ H R, t' σ H R → t σ H R) : PTs X e t' := ⟨fun pins s σ H R I q => h.run pins s σ H R I (f σ H R q)⟩

theorem rng_length (lo hi : Int) : (rng lo hi).length = (hi - lo).toNat := by simp [rng]
theorem rng_get {lo hi : Int} {i : Nat} {d : D} (e : (rng lo hi)[i]? = some d) : i < (hi - lo).toNat ∧ d = .int (lo + (i : Nat)) := by
  have hl := (List.getElem?_eq_some_iff.mp e).1
  rw [rng_length] at hl
  refine ⟨hl, ?_⟩
  simp only [rng, List.getElem?_map] at e
  rw [List.getElem?_range hl] at e
  simpa using e.symm
theorem itOk_rng {src : Src} (hs : ∀ st x, srcRes src st x = some x ∧ ∀ xs, srcIts src xs = xs) {lo hi : Int} {n : Nat} {m : Mp} {H : Hp} (hn : n = (hi - lo).toNat) : ItOk X.K X.mg G src (Itr lo n) (rng lo hi) m H := by
  subst hn
  refine .of hs (fun m2 H2 x i d e => ?_) (fun m2 H2 x i h => by rw [rng_length] at h; exact h)
  obtain ⟨h1, rfl⟩ := rng_get e
  refine ⟨h1, fun v H3 y => ?_⟩
  obtain ⟨e1, e2⟩ := y
  subst e1 e2
  exact ⟨rfl, .int _⟩
theorem itOk_list {src : Src} (hs : ∀ st x, srcRes src st x = some x ∧ ∀ xs, srcIts src xs = xs) {a : Addr} {vs : List V} {xs : List D} {m : Mp} {H : Hp} (hq : SqL X.K H a vs) (st : ∀ m2 H2, Grow m H m2 H2 → SqL X.K H2 a vs) (r : Reps X.K X.mg G m H xs vs) : ItOk X.K X.mg G src (Itl X.K a) xs m H := by
  refine .of hs (fun m2 H2 x i d e => ?_) (fun m2 H2 x i h => ⟨vs, st m2 H2 x, by rw [← r.length]; exact h⟩)
  obtain ⟨v, hv, rv⟩ := r.get e
  refine ⟨⟨vs, v, st m2 H2 x, hv⟩, fun v' H3 y => ?_⟩
  obtain ⟨e1, e2⟩ := y
  subst e1
  have := e2 vs (st m2 H3 x)
  rw [hv] at this
  cases this
  exact ⟨rfl, rv.gr x⟩
end
end Ev

set_option Elab.async false
set_option linter.all false
set_option maxRecDepth 100000
set_option maxHeartbeats 4000000
/-! Ev, part 10: the cases of expressions. -/
namespace Ev
open PySem L2 PySem.Spec
open PyProof.Rows hiding St
section
variable {X : Cx} {G : Prog} {C : Nat → Nat → List D → Sto → Out D} {fl k : Nat} {W : WX} {N : List Str} {sc : Scope} {pos : Pos}
theorem pe_of_F {x : Ex} {e : Expr} (h : PE X e (tF X G C fl W x)) : PE X e (tE X G C fl W x) :=
  h.im fun σ H Q ⟨ρ, fls, st, m, S, q⟩ => ⟨ρ, fls, st, m, S, q.imp fun d s h => h.qd⟩
theorem to_F {x : Ex} {σ : St} {H : Hp} {Q : VK} (h : tE X G C fl W x σ H Q) : tF X G C fl W x σ H Q :=
  let ⟨ρ, fls, st, m, S, q⟩ := h
  ⟨ρ, fls, st, m, S, q.imp fun d s h => h.qd⟩

/-! ### plain ones -/
theorem sign_ok {x : Str} (h : StrOk x) {c : Nat} (hc : c ∈ x.cps.toList) : StrOk ⟨#[c]⟩ := by
  have h2 : ∀ c ∈ x.cps.toList, c < 0x110000 := by
    have : (x.cps.all fun c => decide (c < 0x110000)) = true := h
    rw [← Array.all_toList, List.all_eq_true] at this
    exact fun c hc => of_decide_eq_true (this c hc)
  show (#[c].all fun c => decide (c < 0x110000)) = true
  simpa using h2 c hc
theorem at_mem {α : Type} {xs : List α} {i : Int} {c : α} (h : atI xs i = some c) : c ∈ xs := by
  unfold atI at h
  cases hj : ixN xs.length i with
  | none => rw [hj] at h; cases h
  | some j => rw [hj, Option.bind_some] at h; exact List.mem_of_getElem? h
theorem c_const {x : Ex} {e : Expr} {d : D} {v : V} (he : PE X e (tC v)) (ev : ∀ ρ st, evE G (C fl) fl ρ x st = .ok d st) (r : ∀ m H, Rep X.K X.mg G m H d v) : PE X e (tE X G C fl W x) :=
  he.im fun σ H Q ⟨ρ, fls, st, m, S, q⟩ => by
    rw [ev] at q
    exact QV.here q S.rel (r m H)
theorem c_var {i : Nat} {x : Str} (ok : XOk G C k W N sc X) (h1 : N[i]? = some x) (h2 : visB sc x = true) (h3 : nameB x = true) : PE X (.Name x pos) (tE X G C fl W (.var i)) := by
  unfold nameB at h3
  simp only [Bool.and_eq_true, beq_iff_eq] at h3
  have hv : Vis X.env.scope x := by
    rw [ok.sc]
    unfold visB at h2
    split at h2 <;> first | exact .inl (by assumption) | exact .inr (.inl (by assumption)) | exact .inr (.inr (by assumption)) | cases h2
  refine (pe_var (i := i) (by rw [ok.n]; exact h1) hv h3.1.1 h3.1.2).im fun σ H Q ⟨ρ, fls, st, m, S, q⟩ => ?_
  unfold evE at q
  split at q
  · rename_i d e
    obtain ⟨v, hv, r⟩ := S.env.2 i d e
    exact ⟨v, hv, QV.here q S.rel r⟩
  · exact q.elim
theorem name_dbg {x : Str} (h3 : nameB x = true) : (x == ("__debug__" : Str)) = false ∧ x ≠ "__name__" := by
  unfold nameB at h3
  simp only [Bool.and_eq_true, beq_iff_eq, Bool.not_eq_true', decide_eq_false_iff_not] at h3
  exact ⟨h3.1.1, h3.2⟩
theorem c_bin {op : BOp} {a b : Ex} {ea eb : Expr} (ha : PE X ea (tE X G C fl W a)) (hb : PE X eb (tE X G C fl W b)) : PE X (.BinOp ea (opOf op) eb pos) (tF X G C fl W (.bin op a b)) := by
  refine (pe_op opAny ha hb).im fun σ H Q ⟨ρ, fls, st, m, S, q⟩ => ?_
  unfold evE at q
  refine t1 S q fun x st1 v m1 H1 e1 S1 r1 q1 => ?_
  refine t1 S1 q1 fun y st2 u m2 H2 e2 S2 r2 q2 => ?_
  cases hd : binD st2 op x y with
  | none => rw [hd] at q2; exact q2.elim
  | some d =>
    rw [hd] at q2
    obtain ⟨r, h1, h2⟩ := binD_ok (X := X) (G := G) hd
    exact ⟨r, h1, h2 _ _ _ _ _ _ S2.rel (r1.ext e2) r2 (QD.ext (e1.trans e2) q2)⟩
theorem c_neg {a : Ex} {ea : Expr} (ha : PE X ea (tE X G C fl W a)) : PE X (.UnaryOp .USub ea pos) (tE X G C fl W (.neg a)) := by
  refine (pe_un un_neg ha).im fun σ H Q ⟨ρ, fls, st, m, S, q⟩ => ?_
  unfold evE at q
  refine t1 S q fun x st1 v m1 H1 e1 S1 r1 q1 => ?_
  cases r1 <;> first | exact q1.elim | skip
  exact ⟨_, rfl, QV.here (QV.ext e1 q1) S1.rel (.int _)⟩
theorem c_not {a : Ex} {ea : Expr} (ha : PE X ea (tE X G C fl W a)) : PE X (.UnaryOp .Not ea pos) (tE X G C fl W (.nt a)) := by
  refine (pe_not ha).im fun σ H Q ⟨ρ, fls, st, m, S, q⟩ => ?_
  unfold evE at q
  refine t1 S q fun x st1 v m1 H1 e1 S1 r1 q1 => ?_
  cases r1 <;> first | exact q1.elim | skip
  exact ⟨_, rfl, QV.here (QV.ext e1 q1) S1.rel (.bl _)⟩
theorem units_of (ok : XOk G C k W N sc X) : X.A.units + 65 < cLine := by have := ok.room.un; omega
theorem c_cmp {op : COp} {a b : Ex} {ea eb : Expr} (ok : XOk G C k W N sc X) (ha : PE X ea (tE X G C fl W a)) (hb : PE X eb (tE X G C fl W b)) (hm : behindInMarks (copOf op) eb = false) :
    PE X (.Compare ea [copOf op] [eb] pos) (tE X G C fl W (.cmp op a b)) := by
  refine (pe_cmpR opAny ha hb hm).im fun σ H Q ⟨ρ, fls, st, m, S, q⟩ => ?_
  unfold evE at q
  refine t1 S q fun x st1 v m1 H1 e1 S1 r1 q1 => ?_
  refine t1 S1 q1 fun y st2 u m2 H2 e2 S2 r2 q2 => ?_
  cases hd : cmpD st2 op x y with
  | none => rw [hd] at q2; exact q2.elim
  | some d =>
    rw [hd] at q2
    obtain ⟨r, h1, h2⟩ := cmpD_ok (X := X) (G := G) (units_of ok) hd
    exact ⟨r, h1, h2 _ _ _ _ _ _ S2.rel (r1.ext e2) r2 (QV.here (QV.ext (e1.trans e2) q2) S2.rel (.bl _))⟩
theorem c_chain {op op2 : COp} {a b c : Ex} {ea eb ec : Expr} (ok : XOk G C k W N sc X) (ha : PE X ea (tE X G C fl W a)) (hb : PE X eb (tE X G C fl W b)) (hc : PE X ec (tE X G C fl W c)) (hm : lastMarks [copOf op, copOf op2] [eb, ec] = false) :
    PE X (.Compare ea [copOf op, copOf op2] [eb, ec] pos) (tE X G C fl W (.chain op op2 a b c)) := by
  refine (pe_chain opAny opAny ha hb hc hm).im fun σ H Q ⟨ρ, fls, st, m, S, q⟩ => ?_
  unfold evE at q
  refine t1 S q fun x st1 v m1 H1 e1 S1 r1 q1 => ?_
  refine t1 S1 q1 fun y st2 u m2 H2 e2 S2 r2 q2 => ?_
  cases hd : cmpD st2 op x y with
  | none => rw [hd] at q2; exact q2.elim
  | some d =>
    rw [hd] at q2
    obtain ⟨r, h1, h2⟩ := cmpD_ok (X := X) (G := G) (units_of ok) hd
    refine ⟨r, h1, h2 _ _ _ _ _ _ S2.rel (r1.ext e2) r2 ⟨d, rfl, ?_⟩⟩
    cases d with
    | false =>
      rw [if_neg Bool.false_ne_true]
      exact QV.here (QV.ext (e1.trans e2) q2) S2.rel (.bl _)
    | true =>
      rw [if_pos rfl]
      refine t1 S2 q2 fun z st3 w m3 H3 e3 S3 r3 q3 => ?_
      cases hd2 : cmpD st3 op2 y z with
      | none => rw [hd2] at q3; exact q3.elim
      | some d2 =>
        rw [hd2] at q3
        obtain ⟨r', h1, h2⟩ := cmpD_ok (X := X) (G := G) (units_of ok) hd2
        exact ⟨r', h1, h2 _ _ _ _ _ _ S3.rel (r2.ext e3) r3 (QV.here (QV.ext (e1.trans (e2.trans e3)) q3) S3.rel (.bl _))⟩
theorem non_rep {K : PySem.W.Frag} {mg : Str → Option Value} {m : Mp} {H : Hp} {x : D} {v : V} (r : Rep K mg G m H x v) : decide (v = .non) = isNon x := by
  cases r <;> rfl
theorem c_isN {a : Ex} {ea : Expr} {j : Nat} {p2 : Pos} (ha : PE X ea (tE X G C fl W a)) : PE X (.Compare ea [.Is] [.Constant .none j p2] pos) (tE X G C fl W (.isN a)) := by
  refine (pe_cmp (pc_isN ha) rfl).im fun σ H Q ⟨ρ, fls, st, m, S, q⟩ => ?_
  unfold evE at q
  refine t1 S q fun x st1 v m1 H1 e1 S1 r1 q1 => ?_
  rw [non_rep r1]
  exact QV.here (QV.ext e1 q1) S1.rel (.bl _)
theorem c_notN {a : Ex} {ea : Expr} {j : Nat} {p2 : Pos} (ha : PE X ea (tE X G C fl W a)) : PE X (.Compare ea [.IsNot] [.Constant .none j p2] pos) (tE X G C fl W (.notN a)) := by
  refine (pe_cmp (pc_notN ha) rfl).im fun σ H Q ⟨ρ, fls, st, m, S, q⟩ => ?_
  unfold evE at q
  refine t1 S q fun x st1 v m1 H1 e1 S1 r1 q1 => ?_
  rw [non_rep r1]
  exact QV.here (QV.ext e1 q1) S1.rel (.bl _)
theorem c_isB {a : Ex} {ea : Expr} {b : Bool} {j : Nat} {p2 : Pos} (ha : PE X ea (tE X G C fl W a)) : PE X (.Compare ea [.Is] [.Constant (.bool b) j p2] pos) (tE X G C fl W (.isB a b)) := by
  refine (pe_cmpR op_isBl ha pe_bl (nomark _)).im fun σ H Q ⟨ρ, fls, st, m, S, q⟩ => ?_
  unfold evE at q
  refine t1 S q fun x st1 v m1 H1 e1 S1 r1 q1 => ?_
  cases r1 <;> first | exact q1.elim | skip
  exact ⟨_, _, rfl, rfl, QV.here (QV.ext e1 q1) S1.rel (.bl _)⟩
theorem c_notB {a : Ex} {ea : Expr} {b : Bool} {j : Nat} {p2 : Pos} (ha : PE X ea (tE X G C fl W a)) : PE X (.Compare ea [.IsNot] [.Constant (.bool b) j p2] pos) (tE X G C fl W (.notB a b)) := by
  refine (pe_cmpR op_notBl ha pe_bl (nomark _)).im fun σ H Q ⟨ρ, fls, st, m, S, q⟩ => ?_
  unfold evE at q
  refine t1 S q fun x st1 v m1 H1 e1 S1 r1 q1 => ?_
  cases r1 <;> first | exact q1.elim | skip
  exact ⟨_, _, rfl, rfl, QV.here (QV.ext e1 q1) S1.rel (.bl _)⟩

/-! ### argument lists -/
theorem a_nil : PA X [] (tAs X G C fl W .nil) := pa_nil.im fun σ H Q ⟨ρ, fls, st, m, S, q⟩ => by
  unfold evEs at q
  exact q [] m H Ext.refl S.rel .nil
theorem a_cons {a : Ex} {r : Exs} {e : Expr} {es : List Expr} (ha : PE X e (tE X G C fl W a)) (hr : PA X es (tAs X G C fl W r)) (hp : plB e = true) : PA X (e :: es) (tAs X G C fl W (.cons a r)) := by
  refine (pa_cons ha hr (star_pl hp)).im fun σ H Q ⟨ρ, fls, st, m, S, q⟩ => ?_
  unfold evEs at q
  refine t1 S q fun x st1 v m1 H1 e1 S1 r1 q1 => ?_
  refine tl1 S1 q1 fun ds st2 vs m2 H2 e2 S2 r2 q2 => ?_
  exact q2 (v :: vs) m2 H2 (e1.trans e2) S2.rel (.cons (r1.ext e2) r2)
theorem c_tup {as : Exs} {es : List Expr} {j : Nat} (ha : PA X es (tAs X G C fl W as)) (hn : ∀ ρ st ds st', evEs G (C fl) fl ρ as st = .ok ds st' → ds.length ≤ 1000) : PE X (.Tuple es j pos) (tE X G C fl W (.tupE as)) := by
  refine (pe_tup ha).im fun σ H Q ⟨ρ, fls, st, m, S, q⟩ => ?_
  have hl := hn ρ st
  unfold evE at q
  refine ⟨ρ, fls, st, m, S, ?_⟩
  cases e : evEs G (C fl) fl ρ as st with
  | ok ds st1 =>
    rw [e] at q
    intro vs m1 H1 e1 R1 r1
    have := hl ds st1 e
    exact ⟨by rw [← r1.length, sizeLine_eq]; omega, fun p hp => QV.tup (QV.ext e1 q) R1 r1 hp⟩
  | exc c fs s1 => rw [e] at q; exact q
  | bad => rw [e] at q; exact q
theorem c_lst {as : Exs} {es : List Expr} (ha : PA X es (tAs X G C fl W as)) (hn : ∀ ρ st ds st', evEs G (C fl) fl ρ as st = .ok ds st' → ds.length ≤ 1000) : PE X (.List es pos) (tF X G C fl W (.lstE as)) := by
  refine (pe_lst ha).im fun σ H Q ⟨ρ, fls, st, m, S, q⟩ => ?_
  have hl := hn ρ st
  unfold evE at q
  refine ⟨ρ, fls, st, m, S, ?_⟩
  cases e : evEs G (C fl) fl ρ as st with
  | ok ds st1 =>
    rw [e] at q
    intro vs m1 H1 e1 R1 r1
    have := hl ds st1 e
    exact ⟨by rw [← r1.length, sizeLine_eq]; omega, fun p hp => QF.lst (QF.ext e1 q) R1 r1 hp⟩
  | exc c fs s1 => rw [e] at q; exact q
  | bad => rw [e] at q; exact q
theorem c_dic0 {t : Bool} : PE X (.Dict [] [] pos) (tF X G C fl W (.dic0 t)) := by
  cases t with
  | false =>
    refine pe_dnewK.im fun σ H Q ⟨ρ, fls, st, m, S, q⟩ p hp => ?_
    unfold evE at q
    exact q p _ m H Ext.refl S.rel hp (.dk .nil)
  | true =>
    refine pe_dnewT.im fun σ H Q ⟨ρ, fls, st, m, S, q⟩ p hp => ?_
    unfold evE at q
    exact q p _ m H Ext.refl S.rel hp (.dt .nil)
theorem anyF {es : List Expr} {env : PySem.Env} {pos : Pos} (h : es.all plB = true) : (backTo pos (starEach es env)).any (·.1) = false := by
  induction es with
  | nil => rfl
  | cons e es ih =>
    simp only [List.all_cons, Bool.and_eq_true] at h
    have e1 : ∀ l : List (Bool × Sem Value), (backTo pos l).any (·.1) = l.any (·.1) := by
      intro l
      unfold backTo
      induction l with
      | nil => rfl
      | cons a l ih => rw [List.map_cons, List.any_cons, List.any_cons, ih]
    rw [e1] at ih ⊢
    rw [star_pl h.1, List.any_cons, ih h.2]; rfl
theorem bi_type {n : Bi} : (∃ id, biVal n = .builtin id ∧ bootBuiltins (biName n) = some (.builtin id)) ∨ (∃ T, biVal n = .type T ∧ bootBuiltins (biName n) = some (.type T)) := by
  cases n <;> first
    | exact .inl ⟨_, rfl, by decide +kernel⟩
    | exact .inr ⟨_, rfl, by decide +kernel⟩
theorem bi_ne {n : Bi} : biName n ≠ "__name__" ∧ (biName n == ("__debug__" : Str)) = false := by
  cases n <;> exact ⟨by decide +kernel, by decide +kernel⟩
theorem c_bi {n : Bi} {as : Exs} {e : Expr} {es : List Expr} {p : Pos} (ok : XOk G C k W N sc X) (ha : PA X (e :: es) (tAs X G C fl W as)) (hg : Gl X (biName n)) (hp : (e :: es).all plB = true) :
    PE X (.Call (.Name (biName n) p) (e :: es) [] pos) (tF X G C fl W (.bi n as)) := by
  have hp' := hp
  simp only [List.all_cons, Bool.and_eq_true] at hp'
  have main : ∀ σ H Q, tF X G C fl W (.bi n as) σ H Q → tCB (rCall X (biVal n)) (tAs X G C fl W as) σ H Q := fun σ H Q ⟨ρ, fls, st, m, S, q⟩ => by
    unfold evE at q
    refine tl1 S q fun ds st1 vs m1 H1 e1 S1 r1 q1 => ?_
    cases hd : biD st1 n ds with
    | none => rw [hd] at q1; exact q1.elim
    | some d =>
      rw [hd] at q1
      obtain ⟨r, h1, h2⟩ := biD_ok (X := X) (G := G) ok.calm (units_of ok) hd
      exact ⟨r, h1, h2 _ _ _ _ _ S1.rel r1 (QD.ext e1 q1)⟩
  rcases bi_type (n := n) with ⟨id, e1, e2⟩ | ⟨T, e1, e2⟩
  · rw [e1] at main
    exact (pe_callB callAny hg (ok.blt n) e2 ha bi_ne.1 bi_ne.2 (star_pl hp'.1) (anyF hp'.2)).im main
  · rw [e1] at main
    exact (pe_callTy callAny hg (ok.blt n) e2 ha bi_ne.1 bi_ne.2 (star_pl hp'.1) (anyF hp'.2)).im main
theorem c_call {f : Nat} {as : Exs} {x : Str} {e : Expr} {es : List Expr} {p : Pos} (ok : XOk G C k W N sc X) (ha : PA X (e :: es) (tAs X G C fl W as)) (hf : (G.fns[f]?).map (·.name) = some x) (hg : Gl X x) (hx : nameB x = true) (hp : (e :: es).all plB = true)
    (hnp : ∀ F, G.fns[f]? = some F → ∀ ρ st ds st', evEs G (C fl) fl ρ as st = .ok ds st' → ds.length = F.np) :
    PE X (.Call (.Name x p) (e :: es) [] pos) (tE X G C fl W (.call f as)) := by
  have hp' := hp
  simp only [List.all_cons, Bool.and_eq_true] at hp'
  simp only [Option.map_eq_some_iff] at hf
  obtain ⟨F, hF, rfl⟩ := hf
  obtain ⟨a, fd, ps, h1, h2, h3, h4, h5⟩ := ok.fns f F hF
  refine (pe_callS h5 ok.room hg h1 h2 h4 (fun σ => passAt ok.tk σ) ha (name_dbg hx).1 (star_pl hp'.1) (anyF hp'.2)).im fun σ H Q ⟨ρ, fls, st, m, S, q⟩ => ?_
  have hl := hnp F hF ρ st
  unfold evE at q
  refine ⟨ρ, fls, st, m, S, ?_⟩
  cases e : evEs G (C fl) fl ρ as st with
  | ok ds st1 =>
    rw [e] at q
    intro vs m1 H1 e1 R1 r1
    have S1 := S.ext e1 R1
    exact ⟨ds, fls, st1, m1, fl, R1, S1.flf, S1.fll, r1, hl ds st1 e, (Post.ext e1 q).imp fun d s h => QV.ext e1 h⟩
  | exc c fs s1 => rw [e] at q; exact q
  | bad => rw [e] at q; exact q
theorem c_callv {i : Nat} {as : Exs} {x : Str} {e : Expr} {es : List Expr} {p : Pos} (ok : XOk G C k W N sc X) (ha : PA X (e :: es) (tAs X G C fl W as)) (h1 : N[i]? = some x) (h2 : visB sc x = true) (hx : nameB x = true) (hp : (e :: es).all plB = true) :
    PE X (.Call (.Name x p) (e :: es) [] pos) (tE X G C fl W (.callv i as)) := by
  have hp' := hp
  simp only [List.all_cons, Bool.and_eq_true] at hp'
  have hx' := hx
  unfold nameB at hx'
  simp only [Bool.and_eq_true, beq_iff_eq] at hx'
  have hv : Vis X.env.scope x := by
    rw [ok.sc]
    unfold visB at h2
    split at h2 <;> first | exact .inl (by assumption) | exact .inr (.inl (by assumption)) | exact .inr (.inr (by assumption)) | cases h2
  refine ⟨fun pins s σ H Q I ⟨ρ, fls, st, m, S, q⟩ => ?_⟩
  unfold evE at q
  split at q
  · rename_i f ef
    obtain ⟨v0, hs, r0⟩ := S.env.2 i _ ef
    cases r0 with
    | @fn _ F a hF hm =>
    obtain ⟨a', fd, ps, g1, g2, g3, g4, g5⟩ := ok.fns f F hF
    rw [hm] at g1
    cases g1
    refine wpAny_Call_Name_kw (thn ((pe_var (pos := p) (by rw [ok.n]; exact h1) hv hx'.1.1 hx'.1.2).run pins s σ H (fun v H1 => v = .ref a ∧ H1 = H) I ⟨.ref a, hs, rfl, rfl⟩) fun u s1 ⟨v, H1, I1, r1, q1⟩ => ?_)
    obtain ⟨rfl, rfl⟩ := q1
    cases r1
    have ht : tAs X G C fl W as σ H1 (fun vs H2 => spEv X.K X.mg G C f F.np vs H2 Q (WE W σ)) := by
      refine ⟨ρ, fls, st, m, S, ?_⟩
      cases e : evEs G (C fl) fl ρ as st with
      | ok ds st1 =>
        rw [e, Out.bind_ok] at q
        intro vs m1 H2 e1 R1 r1
        have S1 := S.ext e1 R1
        split at q
        · rename_i hl
          rw [hF] at hl
          simp only [Option.map_some, Option.some.injEq] at hl
          exact ⟨ds, fls, st1, m1, fl, R1, S1.flf, S1.fll, r1, hl.symm, (Post.ext e1 q).imp fun d s h => QV.ext e1 h⟩
        · exact q.elim
      | exc c fs s1 => rw [e] at q; exact q
      | bad => rw [e] at q; exact q
    exact PySem.W.callWith_K (h₀ := X.base) I1.ok.mod.kin g2 (thn (ha.run pos pins s1 σ _ _ I1 ht) fun us s2 ⟨vs, H2, I2, r, q⟩ => ⟨I2.kIn, run_fnS (E := WE W) g5 ok.room g4 (passAt ok.tk σ) I2 r q⟩) (star_pl hp'.1) (anyF hp'.2)
  · exact q.elim
theorem c_idx {o i : Ex} {eo ei : Expr} (ok : XOk G C k W N sc X) (ho : PE X eo (tE X G C fl W o)) (hi : PE X ei (tE X G C fl W i)) (hp : plB ei = true) : PE X (.Subscript eo ei pos) (tE X G C fl W (.idx o i)) := by
  have hs : ∀ a b, subscripted ei false a b = operate [a, b] (getItem a b) := fun a b => by
    cases ei <;> first | rfl | (simp [plB] at hp)
  refine ⟨fun pins s σ H Q I h => ?_⟩
  obtain ⟨ρ, fls, st, m, S, q⟩ := h
  unfold evE at q
  -- dicts, or lists and tuples
  by_cases hk : ∃ x st1 y st2, evE G (C fl) fl ρ o st = .ok x st1 ∧ evE G (C fl) fl ρ i st1 = .ok y st2 ∧ ((∃ kvs, view st2 x = .dk kvs) ∨ ∃ kvs, view st2 x = .dt kvs)
  · obtain ⟨x, st1, y, st2, e1, e2, hk⟩ := hk
    refine (pe_dget (by have := units_of ok; omega) ho hi hs).run pins s σ H Q I ⟨ρ, fls, st, m, S, ?_⟩
    rw [e1] at q ⊢
    intro v m1 H1 x1 R1 r1
    refine ⟨ρ, fls, st1, m1, S.ext x1 R1, ?_⟩
    rw [Out.bind_ok, e2] at q
    rw [e2]
    intro u m2 H2 x2 R2 r2
    have r1' := r1.ext x2
    rw [Out.bind_ok] at q
    rcases hk with ⟨kvs, hv⟩ | ⟨kvs, hv⟩
    · obtain ⟨p, vs, rfl, hp, rr⟩ := R2.dk r1' hv
      unfold idxD at q
      rw [hv] at q
      simp only at q
      cases ek : keyD y with
      | none => rw [ek] at q; exact q.elim
      | some key =>
        rw [ek] at q
        have := keyD_rep ek r2
        subst this
        rcases rr.val (κ := Nat) key with ⟨h1, h2⟩ | ⟨d, w, h1, h2, h3⟩
        · rw [Option.bind_some, h1] at q; exact q.elim
        · rw [Option.bind_some, h1] at q
          exact ⟨p, w, rfl, by rw [← h2]; exact DGet.k hp, QV.here (QV.ext (x1.trans x2) q) R2 h3⟩
    · obtain ⟨p, vs, rfl, hp, rr⟩ := R2.dt r1' hv
      unfold idxD at q
      rw [hv] at q
      cases y <;> first | exact q.elim | skip
      rename_i ds
      simp only at q
      cases ek : keysD ds with
      | none => rw [ek] at q; exact q.elim
      | some key =>
        rw [ek] at q
        obtain ⟨p', vs', rfl, hp', r'⟩ := R2.tup r2 rfl
        have := keysD_rep ek r'
        subst this
        rcases rr.val key with ⟨h1, h2⟩ | ⟨d, w, h1, h2, h3⟩
        · rw [Option.bind_some, h1] at q; exact q.elim
        · rw [Option.bind_some, h1] at q
          exact ⟨p, w, rfl, by rw [← h2]; exact DGet.t hp hp', QV.here (QV.ext (x1.trans x2) q) R2 h3⟩
  · refine (pe_ix ixAny ho hi hs).run pins s σ H Q I ⟨ρ, fls, st, m, S, ?_⟩
    cases e1 : evE G (C fl) fl ρ o st with
    | exc c fs s1 => rw [e1] at q; exact q
    | bad => rw [e1] at q; exact q
    | ok x st1 =>
      rw [e1, Out.bind_ok] at q
      intro v m1 H1 x1 R1 r1
      refine ⟨ρ, fls, st1, m1, S.ext x1 R1, ?_⟩
      cases e2 : evE G (C fl) fl ρ i st1 with
      | exc c fs s1 => rw [e2] at q; exact Post.ext x1 q
      | bad => rw [e2] at q; exact q
      | ok y st2 =>
        rw [e2, Out.bind_ok] at q
        intro u m2 H2 x2 R2 r2
        have r1' := r1.ext x2
        cases hd : idxD st2 x y with
        | none => rw [hd] at q; exact q.elim
        | some d =>
          rw [hd] at q
          unfold idxD at hd
          have at_get : ∀ {xs : List D} {vs : List V} {n : Int} {d : D}, Reps X.K X.mg G m2 H2 xs vs → atI xs n = some d → ∃ w, atI vs n = some w ∧ Rep X.K X.mg G m2 H2 d w := fun {xs vs n d} r e => by
            unfold atI at e ⊢
            rw [← r.length]
            cases h : ixN xs.length n with
            | none => rw [h] at e; cases e
            | some j =>
              rw [h, Option.bind_some] at e
              rw [Option.bind_some]
              exact r.get e
          split at hd
          · rename_i hv
            obtain ⟨p, vs, rfl, hp, rr⟩ := R2.lst r1' hv
            cases r2
            obtain ⟨w, h1, h2⟩ := at_get rr hd
            exact ⟨_, ix_list, p, vs, _, w, rfl, rfl, SqL.of hp, h1, QV.here (QV.ext (x1.trans x2) q) R2 h2⟩
          · rename_i hv
            obtain ⟨p, vs, rfl, hp, rr⟩ := R2.tup r1' hv
            cases r2
            obtain ⟨w, h1, h2⟩ := at_get rr hd
            exact ⟨_, ix_tup, p, vs, _, w, rfl, rfl, SqT.of hp, h1, QV.here (QV.ext (x1.trans x2) q) R2 h2⟩
          · rename_i hv
            obtain ⟨p, vs, rfl, hp, rr⟩ := R2.fz r1' hv
            cases r2
            obtain ⟨w, h1, h2⟩ := at_get rr hd
            exact ⟨_, ix_list, p, vs, _, w, rfl, rfl, hp, h1, QV.here (QV.ext (x1.trans x2) q) R2 h2⟩
          · rename_i hv
            obtain ⟨p, vs, rfl, hp, rr⟩ := R2.tk r1' hv
            cases r2
            obtain ⟨w, h1, h2⟩ := at_get rr hd
            exact ⟨_, ix_tup, p, vs, _, w, rfl, rfl, hp, h1, QV.here (QV.ext (x1.trans x2) q) R2 h2⟩
          · rename_i z n hv
            split at hd
            · rename_i hz
              rw [Option.map_eq_some_iff] at hd
              obtain ⟨c, hc, rfl⟩ := hd
              obtain ⟨rfl, _, hok⟩ := R2.str r1' hv
              cases r2
              exact ⟨_, ix_str, z, _, c, rfl, rfl, by rw [← SZ_eq]; exact hz, hc, QV.here (QV.ext (x1.trans x2) q) R2 (.str (sign_ok hok (at_mem hc)))⟩
            · cases hd
          · rename_i kvs hv
            exact (hk ⟨x, st1, _, st2, e1, e2, .inl ⟨_, hv⟩⟩).elim
          · rename_i hv
            exact (hk ⟨x, st1, _, st2, e1, e2, .inr ⟨_, hv⟩⟩).elim
          · cases hd
/-! ### methods of built-in types -/
theorem base_pl0 {eo : Expr} {name : Str} {env : PySem.Env} (h : baseB eo = true) : attributeBase eo name env (eval eo env) = eval eo env := by
  cases eo <;> try rfl
  rename_i f as kws p
  cases f <;> try rfl
  cases as with
  | nil =>
    cases kws with
    | nil => simp [baseB] at h
    | cons _ _ => rfl
  | cons _ _ => rfl
theorem c_bits {a : Ex} {eo : Expr} {apos : Pos} (ha : PE X eo (tE X G C fl W a)) (hb : baseB eo = true) (hl : (apos.endLine == pos.line) = true) : PE X (.Call (.Attribute eo "bit_length" apos) [] [] pos) (tE X G C fl W (.bits a)) := by
  refine (pe_bits ha (base_pl0 hb) hl).im fun σ H Q ⟨ρ, fls, st, m, S, q⟩ => ?_
  unfold evE at q
  refine t1 S q fun x st1 v m1 H1 e1 S1 r1 q1 => ?_
  cases r1 <;> first | exact q1.elim | skip
  exact ⟨_, rfl, QV.here (QV.ext e1 q1) S1.rel (.int _)⟩
theorem c_dix {c : Nat} {i : Ex} {x : Str} {np : Pos} {ei : Expr} {p : Str × List (Str × D)} (ok : XOk G C k W N sc X) (hp : G.dics[c]? = some p) (hx : p.1 = x) (hg : Gl X x) (hn : nameB x = true) (hi : PE X ei (tE X G C fl W i)) (hpl : plB ei = true) :
    PE X (.Subscript (.Name x np) ei pos) (tE X G C fl W (.dix c i)) := by
  have hs : ∀ a b, subscripted ei false a b = operate [a, b] (getItem a b) := fun a b => by
    cases ei <;> first | rfl | (simp [plB] at hpl)
  obtain ⟨a, h1, h2⟩ := ok.dics c p hp
  rw [hx] at h1
  refine (pe_ix ix_kdict (pe_glob (v := .ref a) hg h1 rfl (name_dbg hn).1) hi hs).im fun σ H Q ⟨ρ, fls, st, m, S, q⟩ => ?_
  unfold evE at q
  refine t1 S q fun y st1 u m1 H1 e1 S1 r1 q1 => ?_
  cases r1 <;> first | exact q1.elim | skip
  rename_i z hz
  dsimp only at q1
  rw [hp] at q1
  dsimp only at q1
  cases hl : p.2.lookup z with
  | none => rw [hl] at q1; exact q1.elim
  | some d =>
    rw [hl] at q1
    obtain ⟨v, h3, h4⟩ := h2 z d hl
    exact ⟨a, z, v, rfl, rfl, h3, QV.here (QV.ext e1 q1) S1.rel (h4 _ _)⟩
theorem Reps.emp {K : PySem.W.Frag} {mg : Str → Option Value} {m : Mp} {H : Hp} {ds : List D} {vs : List V} (r : Reps K mg G m H ds vs) : (!ds.isEmpty) = !vs.isEmpty := by cases r <;> rfl
theorem c_orV {a b : Ex} {ea eb : Expr} (ha : PE X ea (tE X G C fl W a)) (hb : PE X eb (tE X G C fl W b)) : PE X (.BoolOp .Or [ea, eb] pos) (tE X G C fl W (.orV a b)) := by
  refine (pe_orT ha (pe_one hb)).im fun σ H Q ⟨ρ, fls, st, m, S, q⟩ => ?_
  unfold evE at q
  refine t1 S q fun x st1 v m1 H1 e1 S1 r1 q1 => ?_
  cases hx : trD x with
  | none => rw [hx] at q1; exact q1.elim
  | some c =>
    rw [hx] at q1
    have tr : TruV X.K v H1 c := by
      unfold trD at hx
      split at hx
      · cases hx; cases r1; rfl
      · cases hx; cases r1; rfl
      · cases hx
        cases r1 with
        | tup n e r => exact .inr (.inl ⟨_, SqT.of e, Reps.emp r⟩)
      · cases hx
    refine ⟨c, tr, ?_⟩
    cases c with
    | true =>
      rw [if_pos rfl]
      exact QV.here (QV.ext e1 q1) S1.rel r1
    | false =>
      rw [if_neg Bool.false_ne_true]
      exact ⟨ρ, fls, st1, m1, S1, Post.imp q1 fun d s h => QV.ext e1 h⟩
theorem c_sset {a : Ex} {ea : Expr} {p p2 q0 pos : Pos} (ok : XOk G C k W N sc X) (ha : PE X ea (tE X G C fl W a)) (hg : Gl X "sorted") (hg2 : Gl X "set") (hp : plB ea = true) :
    PE X (.Call (.Name "sorted" p) [.Call (.Name "set" p2) [ea] [] q0] [] pos) (tF X G C fl W (.sset a)) := by
  refine (EvSet.pe_sset ok.calm hg (ok.blt .sorted) hg2 (ok.blt .set) ha (star_pl hp)).im fun σ H Q ⟨ρ, fls, st, m, S, q⟩ => ?_
  unfold evE at q
  refine t1 S q fun x st1 v m1 H1 e1 S1 r1 q1 => ?_
  cases ht : textsOf st1 x with
  | none => rw [ht] at q1; exact q1.elim
  | some ss =>
    rw [ht] at q1
    dsimp only at q1
    split at q1
    · rename_i hroom
      have q2 : QDX X G fls st1 m1 H1 (D.lst ((usort ss).map .str)) Q := QD.ext e1 q1
      have room : ∀ l : List Str, l.Nodup → (∀ x ∈ l, x ∈ ss) → l.length + 1 < scanBound := fun l hn hm => by
        have := usort_room hn hm
        unfold scanBound
        omega
      unfold textsOf at ht
      split at ht
      · rename_i ev
        obtain ⟨p', vs, rfl, hp', rr⟩ := S1.rel.lst r1 ev
        obtain ⟨e3, hok⟩ := strs_rep ht rr
        subst e3
        refine ⟨p', ss, rfl, .inl (SqL.of hp'), room, fun ys z hs hn hm hz => ?_⟩
        rw [usort_unique hs hn hm]
        exact QF.lst q2 S1.rel (Reps.strs fun y hy => hok y ((usort_mem y ss).mp hy)) hz
      · rename_i ev
        obtain ⟨p', vs, rfl, hp', rr⟩ := S1.rel.tup r1 ev
        obtain ⟨e3, hok⟩ := strs_rep ht rr
        subst e3
        refine ⟨p', ss, rfl, .inr (SqT.of hp'), room, fun ys z hs hn hm hz => ?_⟩
        rw [usort_unique hs hn hm]
        exact QF.lst q2 S1.rel (Reps.strs fun y hy => hok y ((usort_mem y ss).mp hy)) hz
      · cases ht
    · exact q1.elim
theorem base_pl {eo : Expr} {name : Str} {env : PySem.Env} (h : baseB eo = true) : attributeBase eo name env (eval eo env) = eval eo env := by
  cases eo <;> try rfl
  rename_i f as kws p
  cases f <;> try rfl
  cases as with
  | nil =>
    cases kws with
    | nil => simp [baseB] at h
    | cons _ _ => rfl
  | cons _ _ => rfl
theorem few_pl {es : List Expr} {env : PySem.Env} {pos : Pos} (h : es.all plB = true) (hl : es.length < 30) : ((backTo pos (starEach es env)).all (fun x => !x.1) && (backToKw pos (keywordEach [] env)).all (fun x => x.1.isSome)
      && decide (es.length + ([] : List Keyword).length + (if ([] : List Keyword).isEmpty then 0 else 1) < 30)) = true := by
  have h1 : (backTo pos (starEach es env)).all (fun x => !x.1) = true := by
    have := anyF (env := env) (pos := pos) h
    rw [List.all_eq_not_any_not]
    simp only [Bool.not_not]
    rw [this]; rfl
  rw [h1]
  have h2 : decide (es.length + ([] : List Keyword).length + (if ([] : List Keyword).isEmpty then 0 else 1) < 30) = true := by
    apply decide_eq_true
    show es.length + 0 + 0 < 30
    omega
  rw [h2]
  rfl
/-- a cell is written -/
theorem Rel.write {K : PySem.W.Frag} {mg : Str → Option Value} {fls : List Nat} {st : Sto} {m : Mp} {H : Hp} {n : Nat} {p : Addr} {c : D} {o : HO} (R : Rel K mg G fls st m H) (hn : m.c[n]? = some p) (hc : CellR K mg G m H c o)
    (hw : ∀ f ∈ fls, n < f → c.lo f = true) : Rel K mg G fls (st.set n c) m (upd H p o) ∧ Ext m H m (upd H p o) := by
  have hp : p ∈ m.c := List.mem_of_getElem? hn
  have g : Ext m H m (upd H p o) := ⟨fun _ _ e => e, fun q u e h => ⟨by rw [upd_ne (fun z => h (.inl (by rw [z]; exact hp)))]; exact e, h⟩, rfl, fun q hq => by
    rw [upd_ne (fun z => (R.hid q hq).1 (by rw [z]; exact hp))]⟩
  refine ⟨⟨by rw [List.length_set]; exact R.len, R.nd, fun k c' q e1 e2 => ?_, fun q hq => ?_, fun f hf k c' hk e1 => ?_, fun f hf => by rw [List.length_set]; exact R.fle f hf⟩, g⟩
  · by_cases hk : n = k
    · subst hk
      have hl : n < st.length := by rw [← R.len]; exact (List.getElem?_eq_some_iff.mp hn).1
      rw [List.getElem?_set_self hl] at e1
      cases e1
      rw [hn] at e2
      cases e2
      exact ⟨o, upd_same, hc.ext g⟩
    · rw [List.getElem?_set_ne hk] at e1
      obtain ⟨u, h1, h2⟩ := R.cell k c' q e1 e2
      have hq : q ≠ p := fun z => by
        subst z
        have := (List.getElem?_eq_some_iff.mp hn)
        have h3 := (List.getElem?_eq_some_iff.mp e2)
        exact hk ((List.getElem_inj R.nd).mp (this.2.trans h3.2.symm))
      exact ⟨u, by rw [upd_ne hq]; exact h1, h2.ext g⟩
  · obtain ⟨h1, u, h2⟩ := R.hid q hq
    exact ⟨h1, u, by rw [upd_ne (fun z => h1 (by rw [z]; exact hp))]; exact h2⟩
  · by_cases hk' : n = k
    · subst hk'
      by_cases hl : n < st.length
      · rw [List.getElem?_set_self hl] at e1
        cases e1
        exact hw f hf hk
      · rw [List.getElem?_eq_none (by simpa using hl)] at e1; cases e1
    · rw [List.getElem?_set_ne hk'] at e1
      exact R.clean f hf k c' hk e1
/-- a cell's content -/
theorem Rel.content {K : PySem.W.Frag} {mg : Str → Option Value} {fls : List Nat} {st : Sto} {m : Mp} {H : Hp} {n : Nat} {p : Addr} {c : D} (R : Rel K mg G fls st m H) (hn : m.c[n]? = some p) (hc : st[n]? = some c) : ∃ o, H p = some o ∧ CellR K mg G m H c o := R.cell n c p hc hn
mutual
theorem lo_mono {f g : Nat} (h : f ≤ g) : ∀ d : D, d.lo f = true → d.lo g = true
  | .non, _ => rfl
  | .bl _, _ => rfl
  | .int _, _ => rfl
  | .str _, _ => rfl
  | .fn _, _ => rfl
  | .cl _, _ => rfl
  | .ty _, _ => rfl
  | .tup xs, e => los_mono h xs e
  | .lst xs, e => los_mono h xs e
  | .fz xs, e => los_mono h xs e
  | .tk xs, e => los_mono h xs e
  | .dk xs, e => loK_mono h xs e
  | .dt xs, e => loT_mono h xs e
  | .ins _ xs, e => loF_mono h xs e
  | .err _ xs, e => loF_mono h xs e
  | .ref n, e => by
    have e' : n < f := of_decide_eq_true e
    exact decide_eq_true (by omega)
theorem los_mono {f g : Nat} (h : f ≤ g) : ∀ d : List D, D.los f d = true → D.los g d = true
  | [], _ => rfl
  | x :: xs, e => by
    simp only [D.los, Bool.and_eq_true] at e ⊢
    exact ⟨lo_mono h x e.1, los_mono h xs e.2⟩
theorem loK_mono {f g : Nat} (h : f ≤ g) : ∀ d : List (Key × D), D.loK f d = true → D.loK g d = true
  | [], _ => rfl
  | (k, x) :: xs, e => by
    simp only [D.loK, Bool.and_eq_true] at e ⊢
    exact ⟨lo_mono h x e.1, loK_mono h xs e.2⟩
theorem loT_mono {f g : Nat} (h : f ≤ g) : ∀ d : List (List Key × D), D.loT f d = true → D.loT g d = true
  | [], _ => rfl
  | (k, x) :: xs, e => by
    simp only [D.loT, Bool.and_eq_true] at e ⊢
    exact ⟨lo_mono h x e.1, loT_mono h xs e.2⟩
theorem loF_mono {f g : Nat} (h : f ≤ g) : ∀ d : List (Nat × D), D.loF f d = true → D.loF g d = true
  | [], _ => rfl
  | (k, x) :: xs, e => by
    simp only [D.loF, Bool.and_eq_true] at e ⊢
    exact ⟨lo_mono h x e.1, loF_mono h xs e.2⟩
end
theorem los_app {f : Nat} : ∀ (xs ys : List D), D.los f (xs ++ ys) = (D.los f xs && D.los f ys)
  | [], ys => rfl
  | x :: xs, ys => by
    show (D.lo f x && D.los f (xs ++ ys)) = ((D.lo f x && D.los f xs) && D.los f ys)
    rw [los_app xs ys, Bool.and_assoc]
theorem wr_lo {fl n : Nat} {d : D} (h : wrOk fl n d = true) {f : Nat} (hf : f ≤ fl) (hn : n < f) : d.lo f = true := by
  unfold wrOk at h
  simp only [Bool.or_eq_true, decide_eq_true_eq] at h
  rcases h with h | h
  · omega
  · exact lo_mono (Nat.zero_le f) d h
theorem txt_join {a : Str} {ys : List Str} : Txt.join a ys = Str.join a ys := PySem.StrLaws.glued_eq_join a ys
theorem join_ok {a : Str} (ha : StrOk a) : ∀ {ys : List Str}, (∀ x ∈ ys, StrOk x) → StrOk (Str.join a ys)
  | [], _ => by show StrOk Str.empty; simp [Str.empty]
  | [x], h => h x (by simp)
  | x :: y :: r, h => by
    show StrOk (x ++ a ++ Str.join a (y :: r))
    exact str_app (str_app (h x (by simp)) ha) (join_ok ha fun z hz => h z (List.mem_cons_of_mem _ hz))
def bmId (b : Bm) (T : String) : String :=
  match b, T with
  | .append, _ => "list.append"
  | .extend, _ => "list.extend"
  | .index, _ => "list.index"
  | .join, _ => "str.join"
  | _, _ => ""
theorem recv_ok {b : Bm} {T : String} {st : Sto} {x : D} (e : recvT b (view st x) = some T) : PlainAttrs T ∧ Slot T (bmName b) (bmId b T) ∧ typeOf (.builtin (bmId b T)) = pure (.type "method_descriptor") ∧
    ∀ fls m H v, RelX X G fls st m H → RepX X G m H x v → tyV X.K T v H := by
  unfold recvT at e
  split at e
  · rename_i ev
    cases e
    refine ⟨PySem.F.plainAttrs_list, PySem.F.slot_list_append, PySem.F.type_list_append, fun fls m H v R r => ?_⟩
    obtain ⟨p, vs, rfl, hp, _⟩ := R.lst r ev
    exact .inl ⟨rfl, _, SqL.of hp⟩
  · rename_i ev
    cases e
    refine ⟨PySem.F.plainAttrs_list, PySem.F.slot_list_extend, PySem.F.type_list_extend, fun fls m H v R r => ?_⟩
    obtain ⟨p, vs, rfl, hp, _⟩ := R.lst r ev
    exact .inl ⟨rfl, _, SqL.of hp⟩
  · rename_i ev
    cases e
    refine ⟨PySem.F.plainAttrs_list, PySem.F.slot_list_index, PySem.F.type_list_index, fun fls m H v R r => ?_⟩
    obtain ⟨p, vs, rfl, hp, _⟩ := R.lst r ev
    exact .inl ⟨rfl, _, SqL.of hp⟩
  · rename_i ev
    cases e
    refine ⟨PySem.F.plainAttrs_str, PySem.F.slot_str_join, PySem.F.type_str_join, fun fls m H v R r => ?_⟩
    obtain ⟨rfl, _⟩ := R.str r ev
    rfl
  · cases e
theorem bmD_ok {b : Bm} {T : String} {x : D} {as : List D} {st st' : Sto} {d : D} (eT : recvT b (view st x) = some T) (e : bmD fl b x as st = .ok d st') : ∃ r, MtR X (bmId b T) r ∧
    ∀ fls m H v us, RelX X G fls st m H → (∀ f ∈ fls, f ≤ fl) → RepX X G m H x v → Reps X.K X.mg G m H as us → (∀ m0 H0 Q, Ext m0 H0 m H → QVX X G fls st' m0 H0 d Q → r v us H Q) := by
  unfold bmD at e
  split at e
  · rename_i n v0
    split at e
    · rename_i xs ec
      split at e
      · rename_i hz
        cases e
        refine ⟨_, mt_append, fun fls m H v us R hf rx ru m0 H0 Q x0 q => ?_⟩
        cases rx with
        | ref hn =>
        obtain ⟨o, h1, h2⟩ := R.content hn ec
        cases h2 with
        | lst rs =>
        obtain ⟨u, rfl, r⟩ := reps1 ru
        have hw := R.write (c := .lst (xs ++ [v0])) (o := .lst (_ ++ [u])) hn (.lst (rs.app (.cons r .nil))) fun f hff hnf => by
          show D.los f (xs ++ [v0]) = true
          rw [los_app]
          have h3 : D.lo f (.lst xs) = true := R.clean f hff n _ hnf ec
          have h4 : D.los f xs = true := h3
          rw [h4, Bool.true_and]
          show (D.lo f v0 && true) = true
          rw [wr_lo hz.2 (hf f hff) hnf]; rfl
        exact ⟨_, _, u, rfl, rfl, h1, by rw [← rs.length, ← SZ_eq]; exact hz.1, q _ _ _ (x0.trans hw.2) hw.1 .non⟩
      · cases e
    · cases e
  · rename_i n v0
    split at e
    · rename_i xs ys ec ev
      split at e
      · rename_i hz
        cases e
        refine ⟨_, mt_extend, fun fls m H v us R hf rx ru m0 H0 Q x0 q => ?_⟩
        cases rx with
        | ref hn =>
        obtain ⟨o, h1, h2⟩ := R.content hn ec
        cases h2 with
        | lst rs =>
        obtain ⟨u, rfl, r⟩ := reps1 ru
        obtain ⟨p, vs, rfl, hp, rr⟩ := R.lst r ev
        have hw := R.write (c := .lst (xs ++ ys)) (o := .lst (_ ++ vs)) hn (.lst (rs.app rr)) fun f hff hnf => by
          show D.los f (xs ++ ys) = true
          rw [los_app]
          have h3 : D.lo f (.lst xs) = true := R.clean f hff n _ hnf ec
          have h4 : D.los f xs = true := h3
          rw [h4, Bool.true_and]
          exact wr_lo (d := .lst ys) hz.2 (hf f hff) hnf
        exact ⟨_, p, _, vs, rfl, rfl, h1, hp, by rw [← rs.length, ← rr.length, ← SZ_eq]; exact hz.1, q _ _ _ (x0.trans hw.2) hw.1 .non⟩
      · cases e
    · rename_i xs ys ec ev
      split at e
      · rename_i hz
        cases e
        refine ⟨_, EvSet.mt_extendT, fun fls m H v us R hf rx ru m0 H0 Q x0 q => ?_⟩
        cases rx with
        | ref hn =>
        obtain ⟨o, h1, h2⟩ := R.content hn ec
        cases h2 with
        | lst rs =>
        obtain ⟨u, rfl, r⟩ := reps1 ru
        obtain ⟨p, vs, rfl, hp, rr⟩ := R.tup r ev
        have hw := R.write (c := .lst (xs ++ ys)) (o := .lst (_ ++ vs)) hn (.lst (rs.app rr)) fun f hff hnf => by
          show D.los f (xs ++ ys) = true
          rw [los_app]
          have h3 : D.lo f (.lst xs) = true := R.clean f hff n _ hnf ec
          have h4 : D.los f xs = true := h3
          rw [h4, Bool.true_and]
          exact wr_lo (d := .lst ys) hz.2 (hf f hff) hnf
        exact ⟨_, p, _, vs, rfl, rfl, h1, SqT.of hp, by rw [← rs.length, ← rr.length, ← SZ_eq]; exact hz.1, q _ _ _ (x0.trans hw.2) hw.1 .non⟩
      · cases e
    · cases e
  · rename_i v0
    split at e
    · rename_i xs ev
      split at e
      · rename_i hz
        split at e
        · rename_i j hj
          cases e
          refine ⟨_, mt_index, fun fls m H v us R hf rx ru m0 H0 Q x0 q => ?_⟩
          obtain ⟨u, rfl, r⟩ := reps1 ru
          obtain ⟨p, vs, rfl, hp, rr⟩ := R.lst rx ev
          obtain ⟨hj1, hj2, hj3⟩ := List.findIdx?_eq_some_iff_getElem.mp hj
          obtain ⟨w, hw, rw_⟩ := rr.get (List.getElem?_eq_getElem hj1)
          have hfl : ∀ (k : Nat) (hk : k < xs.length), flat xs[k] = true := fun k hk => List.all_eq_true.mp hz.2 _ (List.getElem_mem hk)
          refine ⟨p, vs, u, j, w, rfl, rfl, SqL.of hp, flat_rep hz.1 r, flats_rep hz.2 rr, hw, ?_, fun mm z' hm hz' => ?_, QV.here (QV.ext x0 q) R (.int _)⟩
          · rw [eqV_eqv (hfl j hj1) hz.1 rw_ r]; exact hj2
          · have hm1 : mm < xs.length := by omega
            obtain ⟨w', hw', rw'⟩ := rr.get (List.getElem?_eq_getElem hm1)
            rw [hz'] at hw'
            cases hw'
            rw [eqV_eqv (hfl mm hm1) hz.1 rw' r]
            have := hj3 mm hm
            simpa using this
        · cases e
      · cases e
    · cases e
  · rename_i a v0
    split at e
    · rename_i ys ht
      split at e
      · rename_i hz
        cases e
        refine ⟨_, mt_join, fun fls m H v us R hf rx ru m0 H0 Q x0 q => ?_⟩
        obtain ⟨u, rfl, r⟩ := reps1 ru
        obtain ⟨rfl, _, ha⟩ := R.str rx rfl
        rw [SZ_eq] at hz
        unfold textsOf at ht
        split at ht
        · rename_i ev
          obtain ⟨p, vs, rfl, hp, rr⟩ := R.lst r ev
          obtain ⟨e3, hok⟩ := strs_rep ht rr
          subst e3
          refine ⟨a, p, ys, rfl, rfl, .inl (SqL.of hp), hz, ?_⟩
          rw [txt_join]
          exact QV.here (QV.ext x0 q) R (.str (join_ok ha hok))
        · rename_i ev
          obtain ⟨p, vs, rfl, hp, rr⟩ := R.tup r ev
          obtain ⟨e3, hok⟩ := strs_rep ht rr
          subst e3
          refine ⟨a, p, ys, rfl, rfl, .inr (SqT.of hp), hz, ?_⟩
          rw [txt_join]
          exact QV.here (QV.ext x0 q) R (.str (join_ok ha hok))
        · cases ht
      · cases e
    · cases e
  · cases e
/-- the union of a method's rules -/
def rMt (X : Cx) (id : String) : V → List V → Hp → VK → Prop := fun v us H Q => ∃ r, MtR X id r ∧ r v us H Q
theorem mtAny {id : String} : MtR X id (rMt X id) := fun pins s σ H x xs v us Q I rx rs ⟨_, hr, h⟩ => hr pins s σ H x xs v us Q I rx rs h
theorem bm_none {b : Bm} : ∃ T id, PlainAttrs T ∧ Slot T (bmName b) id ∧ typeOf (.builtin id) = pure (.type "method_descriptor") := by
  cases b with
  | append => exact ⟨_, _, PySem.F.plainAttrs_list, PySem.F.slot_list_append, PySem.F.type_list_append⟩
  | extend => exact ⟨_, _, PySem.F.plainAttrs_list, PySem.F.slot_list_extend, PySem.F.type_list_extend⟩
  | index => exact ⟨_, _, PySem.F.plainAttrs_list, PySem.F.slot_list_index, PySem.F.type_list_index⟩
  | get1 => exact ⟨_, _, PySem.F.plainAttrs_dict, PySem.F.slot_dict_get, PySem.F.type_dict_get⟩
  | get2 => exact ⟨_, _, PySem.F.plainAttrs_dict, PySem.F.slot_dict_get, PySem.F.type_dict_get⟩
  | join => exact ⟨_, _, PySem.F.plainAttrs_str, PySem.F.slot_str_join, PySem.F.type_str_join⟩
  | pop2 => exact ⟨_, _, PySem.F.plainAttrs_dict, PySem.F.slot_dict_pop, PySem.F.type_dict_pop⟩
  | bitlen => exact ⟨_, _, PySem.F.plainAttrs_int, PySem.F.slot_int_bit_length, PySem.F.type_int_bit_length⟩
theorem c_bm {b : Bm} {o : Ex} {as : Exs} {eo e : Expr} {es : List Expr} {apos : Pos} (ho : PE X eo (tE X G C fl W o)) (ha : PA X (e :: es) (tAs X G C fl W as)) (hb : baseB eo = true) (hl : (apos.endLine == pos.line) = true) (hp : (e :: es).all plB = true) (hlen : (e :: es).length < 30) :
    PE X (.Call (.Attribute eo (bmName b) apos) (e :: es) [] pos) (tE X G C fl W (.bm b o as)) := by
  have hp' := hp
  simp only [List.all_cons, Bool.and_eq_true] at hp'
  refine ⟨fun pins s σ H Q I h => ?_⟩
  obtain ⟨ρ, fls, st, m, S, q⟩ := h
  unfold evE at q
  cases e1 : evE G (C fl) fl ρ o st with
  | bad => rw [e1] at q; exact q.elim
  | exc c fs s1 =>
    obtain ⟨T, id, h1, h2, h3⟩ := bm_none (b := b)
    refine (pe_bm (cpos := pos) h1 h2 h3 (mtAny (X := X)) ho ha (base_pl hb) (few_pl hp hlen) hl (star_pl hp'.1) (anyF hp'.2)).run pins s σ H Q I ⟨ρ, fls, st, m, S, ?_⟩
    rw [e1] at q ⊢
    exact q
  | ok x st1 =>
    rw [e1, Out.bind_ok] at q
    cases eT : recvT b (view st1 x) with
    | none => rw [eT] at q; exact q.elim
    | some T =>
      rw [eT] at q
      dsimp only at q
      obtain ⟨h1, h2, h3, h4⟩ := recv_ok (X := X) (G := G) eT
      refine (pe_bm (cpos := pos) h1 h2 h3 (mtAny (X := X)) ho ha (base_pl hb) (few_pl hp hlen) hl (star_pl hp'.1) (anyF hp'.2)).run pins s σ H Q I ⟨ρ, fls, st, m, S, ?_⟩
      rw [e1]
      intro v m1 H1 x1 R1 r1
      refine ⟨h4 _ _ _ _ R1 r1, ?_⟩
      refine tl1 (S.ext x1 R1) (Post.ext x1 q) fun ds st2 vs m2 H2 x2 S2 r2 q2 => ?_
      split at q2
      · rename_i eT2
        cases ed : bmD fl b x ds st2 with
        | bad => rw [ed] at q2; exact q2.elim
        | exc c fs s => 
          exfalso
          unfold bmD at ed
          repeat (first | cases ed | split at ed)
        | ok d st3 =>
          rw [ed] at q2
          obtain ⟨r, h5, h6⟩ := bmD_ok (X := X) (G := G) eT2 ed
          exact ⟨r, h5, h6 _ _ _ _ _ S2.rel S2.flf (r1.ext x2) r2 m H Q (x1.trans x2) q2⟩
      · exact q2.elim
end
end Ev

set_option Elab.async false
set_option linter.all false
set_option maxRecDepth 100000
set_option maxHeartbeats 4000000
/-! Ev, part 11: slices, boxes, walks, comprehensions, tests. -/
namespace Ev
open PySem L2 PySem.Spec
open PyProof.Rows hiding St
section
variable {X : Cx} {G : Prog} {C : Nat → Nat → List D → Sto → Out D} {fl k : Nat} {W : WX} {N : List Str} {sc : Scope} {pos : Pos}

/-! ### slices -/
theorem o_none : PO X none (tPo X G C fl W .nil) := po_none.im fun σ H Q ⟨ρ, fls, st, m, S, q⟩ => by
  unfold evEs at q
  obtain ⟨o, h1, h2⟩ := q
  cases h1
  exact h2 m H Ext.refl S.rel
theorem o_some {a : Ex} {e : Expr} (ha : PE X e (tE X G C fl W a)) : PO X (some e) (tPo X G C fl W (.cons a .nil)) := by
  refine (po_some ha).im fun σ H Q ⟨ρ, fls, st, m, S, q⟩ => ?_
  unfold evEs at q
  refine t1 S q fun x st1 v m1 H1 e1 S1 r1 q1 => ?_
  unfold evEs at q1
  obtain ⟨o, h1, h2⟩ := q1
  cases r1 <;> simp [optI] at h1
  subst h1
  exact ⟨_, rfl, h2 m1 H1 e1 S1.rel⟩
theorem tP1 {α : Type} {a : Exs} {f : Option Int → Sto → Out α} {R : α → Sto → Prop} {P : Option Int → Hp → Prop} {fls : List Nat} {st : Sto} {m : Mp} {H : Hp} {ρ : Env} {σ : St} (S : Stt X.K X.mg G fl fls st m H ρ σ)
    (h : Post X.K X.mg G fls m H (WE W σ) ((evEs G (C fl) fl ρ a st).bind fun l st => match optI l with | none => .bad | some o => f o st) R)
    (k : ∀ o st1 m1 H1, Ext m H m1 H1 → Stt X.K X.mg G fl fls st1 m1 H1 ρ σ → Post X.K X.mg G fls m1 H1 (WE W σ) (f o st1) R → P o H1) : tPo X G C fl W a σ H P := by
  refine ⟨ρ, fls, st, m, S, ?_⟩
  cases e : evEs G (C fl) fl ρ a st with
  | ok x st1 =>
    rw [e, Out.bind_ok] at h
    cases ho : optI x with
    | none => rw [ho] at h; exact h.elim
    | some o =>
      rw [ho] at h
      exact ⟨o, ho, fun m1 H1 e1 R1 => k o st1 m1 H1 e1 (S.ext e1 R1) (Post.ext e1 h)⟩
  | exc c fs s1 =>
    rw [e] at h
    exact h
  | bad =>
    rw [e] at h
    exact h
theorem c_slc {o : Ex} {lo hi : Exs} {eo : Expr} {l h : Option Expr} {p2 : Pos} (ho : PE X eo (tE X G C fl W o)) (hl : PO X l (tPo X G C fl W lo)) (hh : PO X h (tPo X G C fl W hi)) :
    PE X (.Subscript eo (.Slice l h none p2) pos) (tF X G C fl W (.slc o lo hi)) := by
  refine (pe_slice slAny ho hl hh).im fun σ H Q ⟨ρ, fls, st, m, S, q⟩ => ?_
  unfold evE at q
  refine t1 S q fun x st1 v m1 H1 e1 S1 r1 q1 => ?_
  refine tP1 S1 q1 fun lo' st2 m2 H2 e2 S2 q2 => ?_
  refine tP1 S2 q2 fun hi' st3 m3 H3 e3 S3 q3 => ?_
  cases hd : slcD st3 x lo' hi' with
  | none => rw [hd] at q3; exact q3.elim
  | some d =>
    rw [hd] at q3
    obtain ⟨r, h1, h2⟩ := slcD_ok (X := X) (G := G) hd
    exact ⟨r, h1, h2 _ _ _ _ _ S3.rel (r1.ext (e2.trans e3)) (QD.ext (e1.trans (e2.trans e3)) q3)⟩

/-! ### boxes -/
theorem box_F {a : Ex} {σ : St} {H : Hp} {Q : VK} (hh : tE X G C fl W (.box a) σ H Q) : tF X G C fl W a σ H Q := by
  obtain ⟨ρ, fls, st, m, S, q⟩ := hh
  refine ⟨ρ, fls, st, m, S, ?_⟩
  unfold evE at q
  cases e : evE G (C fl) fl ρ a st with
  | exc c fs s1 => rw [e] at q; exact q
  | bad => rw [e] at q; exact q
  | ok d st1 =>
    rw [e, Out.bind_ok] at q
    by_cases hc : isC d = true
    · rw [if_pos hc] at q
      have key : QF X.K X.mg G fls st1 m H d Q := by
        intro p o m' Hm x R n c
        have hp : ¬ m'.live p := R.notin n
        have g : Ext m' Hm ⟨m'.c ++ [p], m'.h⟩ (upd Hm p o) := by
          refine ⟨fun i a h => ?_, fun q u h1 h2 => ?_, rfl, fun q hq => ?_⟩
          · show (m'.c ++ [p])[i]? = some a
            rw [List.getElem?_append_left (List.getElem?_eq_some_iff.mp h).1]; exact h
          · have hq := ne_of_none h1 n
            refine ⟨by rw [upd_ne hq]; exact h1, fun z => ?_⟩
            rcases z with z | z
            · rcases List.mem_append.mp z with z | z
              · exact h2 (.inl z)
              · exact hq (by simpa using z)
            · exact h2 (.inr z)
          · obtain ⟨_, u, h⟩ := R.hid q hq
            rw [upd_ne (ne_of_none h n)]
        have hlen : m'.c.length = st1.length := R.len
        refine q (.ref p) ⟨m'.c ++ [p], m'.h⟩ (upd Hm p o) (x.trans g) ⟨by simp [hlen], ?_, fun i c' q e1 e2 => ?_, fun q hq => ?_, fun f hf i c' hi e1 => ?_, fun f hf => ?_⟩ (.ref ?_)
        · refine List.nodup_append.mpr ⟨R.nd, by simp, fun a ha b hb => ?_⟩
          have : b = p := by simpa using hb
          subst this
          intro z
          subst z
          exact hp (.inl ha)
        · have e2 : (m'.c ++ [p])[i]? = some q := e2
          by_cases hi : i < st1.length
          · rw [List.getElem?_append_left hi] at e1
            rw [List.getElem?_append_left (by rw [hlen]; exact hi)] at e2
            obtain ⟨u, h1, h2⟩ := R.cell i c' q e1 e2
            exact ⟨u, by rw [upd_ne (ne_of_none h1 n)]; exact h1, h2.ext g⟩
          · rw [List.getElem?_append_right (by omega)] at e1
            rw [List.getElem?_append_right (by omega)] at e2
            have hi0 : i - st1.length = 0 := by
              by_cases h0 : i - st1.length = 0
              · exact h0
              · rw [List.getElem?_eq_none (by simp; omega)] at e1; cases e1
            rw [hi0] at e1
            have hi1 : i - m'.c.length = 0 := by omega
            rw [hi1] at e2
            simp at e1 e2
            subst e1 e2
            exact ⟨o, upd_same, c.ext g⟩
        · obtain ⟨h1, u, h2⟩ := R.hid q hq
          have hq' := ne_of_none h2 n
          refine ⟨fun z => ?_, u, by rw [upd_ne hq']; exact h2⟩
          rcases List.mem_append.mp z with z | z
          · exact h1 z
          · exact hq' (by simpa using z)
        · have := R.fle f hf
          rw [List.getElem?_append_left (by omega)] at e1
          exact R.clean f hf i c' hi e1
        · have := R.fle f hf
          simp; omega
        · show (m'.c ++ [p])[st1.length]? = some p
          rw [List.getElem?_append_right (by omega)]
          simp [hlen]
      show QD X.K X.mg G fls st1 m H d Q
      cases d <;> first | exact key | (simp [isC] at hc)
    · rw [if_neg hc] at q
      exact q.elim

theorem c_box {a : Ex} {e : Expr} (ha : PE X e (tF X G C fl W a)) : PE X e (tE X G C fl W (.box a)) := ha.im fun _ _ _ h => box_F h

/-! ### walks -/
theorem rg_reps {K : PySem.W.Frag} {mg : Str → Option Value} {m : Mp} {H : Hp} (lo hi : Int) : Reps K mg G m H (rng lo hi) (rgV lo hi) := by
  unfold rgV rng
  generalize List.range (hi - lo).toNat = l
  induction l with
  | nil => exact .nil
  | cons x l ih => exact .cons (.int _) ih
theorem rg_end {fls : List Nat} {st1 : Sto} {m m1 : Mp} {H H1 : Hp} {Q : VK} {σ : St} {lo hi : Int} (e1 : Ext m H m1 H1) (R : Rel X.K X.mg G fls st1 m1 H1) (h1 : small62 lo = true) (h2 : small62 hi = true)
    (q : Post X.K X.mg G fls m1 H1 (WE W σ) (if (rng lo hi).length ≤ SZ then Out.ok (D.lst (rng lo hi)) st1 else .bad) fun d st' => QD X.K X.mg G fls st' m H d Q) :
    RgOk lo hi ∧ ∀ p, H1 p = none → Q (.ref p) (upd H1 p (.lst (rgV lo hi))) := by
  split at q
  · rename_i hz
    rw [rng_length] at hz
    have hz' : (hi - lo).toNat ≤ 16777216 := hz
    have h1 := small62_b h1
    have h2 := small62_b h2
    exact ⟨⟨h1.1, h1.2, h2.1, h2.2, by omega⟩, fun p hp => QF.lst (QF.ext e1 q) R (rg_reps lo hi) hp⟩
  · exact q.elim
theorem c_list1 {a : Ex} {ea : Expr} {p p2 pos2 : Pos} (ok : XOk G C k W N sc X) (ha : PE X ea (tE X G C fl W a)) (hp : plB ea = true) (hg2 : Gl X "range") (hg : Gl X "list") :
    PE X (.Call (.Name "list" p) [.Call (.Name "range" p2) [ea] [] pos2] [] pos) (tF X G C fl W (.listR (.rng1 a))) := by
  refine (pe_listRg ok.calm hg (ok.blt .list) (prg_1 hg2 ok.rng ha (star_pl hp)) rfl).im fun σ H Q ⟨ρ, fls, st, m, S, q⟩ => ?_
  unfold evE at q
  simp only at q
  unfold evI at q
  rw [Out.bind_assoc] at q
  refine t1 S q fun x st1 v m1 H1 e1 S1 r1 q1 => ?_
  cases r1 <;> first | exact q1.elim | skip
  rename_i n
  simp only at q1
  split at q1
  · rename_i hn
    rw [Out.bind_ok] at q1
    exact ⟨n, rfl, rg_end e1 S1.rel (by decide) hn q1⟩
  · exact q1.elim
theorem c_list2 {a b : Ex} {ea eb : Expr} {p p2 pos2 : Pos} (ok : XOk G C k W N sc X) (ha : PE X ea (tE X G C fl W a)) (hb : PE X eb (tE X G C fl W b)) (hp : plB ea = true) (hp2 : plB eb = true) (hg2 : Gl X "range") (hg : Gl X "list") :
    PE X (.Call (.Name "list" p) [.Call (.Name "range" p2) [ea, eb] [] pos2] [] pos) (tF X G C fl W (.listR (.rng2 a b))) := by
  refine (pe_listRg ok.calm hg (ok.blt .list) (prg_2 hg2 ok.rng ha hb (star_pl hp) (star_pl hp2) (by rw [star_pl hp2]; rfl)) rfl).im fun σ H Q ⟨ρ, fls, st, m, S, q⟩ => ?_
  unfold evE at q
  simp only at q
  unfold evI at q
  rw [Out.bind_assoc] at q
  refine t1 S q fun x st1 v m1 H1 e1 S1 r1 q1 => ?_
  rw [Out.bind_assoc] at q1
  refine t1 S1 q1 fun y st2 u m2 H2 e2 S2 r2 q2 => ?_
  cases r1 <;> first | exact q2.elim | skip
  cases r2 <;> first | exact q2.elim | skip
  rename_i i j
  simp only at q2
  split at q2
  · rename_i hn
    rw [Out.bind_ok] at q2
    exact ⟨i, j, rfl, rfl, rg_end (e1.trans e2) S2.rel hn.1 hn.2 q2⟩
  · exact q2.elim
theorem i_rng1 {a : Ex} {tg ea : Expr} {p : Pos} (ok : XOk G C k W N sc X) (ha : PE X ea (tE X G C fl W a)) (hp : plB ea = true) (hg : Gl X "range") : PI X tg (.Call (.Name "range" p) [ea] [] pos) (tI X G C fl W (.rng1 a)) := by
  refine (pi_range1 hg ok.rng (pa_cons ha pa_nil (star_pl hp)) (star_pl hp)).im fun σ H R ⟨ρ, fls, st, m, S, q⟩ => ?_
  unfold evI at q
  refine t1 S q fun x st1 v m1 H1 e1 S1 r1 q1 => ?_
  cases r1 <;> first | exact q1.elim | skip
  rename_i n
  simp only at q1
  split at q1
  · rename_i hn
    have hn' := small62_b hn
    exact ⟨n, rfl, hn'.1, hn'.2, q1 _ m1 H1 e1 S1.rel (itOk_rng (fun _ _ => ⟨rfl, fun _ => rfl⟩) (by simp))⟩
  · exact q1.elim
theorem i_rng2 {a b : Ex} {tg ea eb : Expr} {p : Pos} (ok : XOk G C k W N sc X) (ha : PE X ea (tE X G C fl W a)) (hb : PE X eb (tE X G C fl W b)) (hp : plB ea = true) (hp2 : plB eb = true) (hg : Gl X "range") : PI X tg (.Call (.Name "range" p) [ea, eb] [] pos) (tI X G C fl W (.rng2 a b)) := by
  refine (pi_range2 hg ok.rng (pa_cons ha (pa_cons hb pa_nil (star_pl hp2)) (star_pl hp)) (by rw [star_pl hp, star_pl hp2]; rfl) (star_pl hp2)).im fun σ H R ⟨ρ, fls, st, m, S, q⟩ => ?_
  unfold evI at q
  refine t1 S q fun x st1 v m1 H1 e1 S1 r1 q1 => ?_
  refine t1 S1 q1 fun y st2 u m2 H2 e2 S2 r2 q2 => ?_
  cases r1 <;> first | exact q2.elim | skip
  cases r2 <;> first | exact q2.elim | skip
  rename_i i j
  simp only at q2
  split at q2
  · rename_i hn
    obtain ⟨h1, h2⟩ := hn
    have h1' := small62_b h1
    have h2' := small62_b h2
    exact ⟨i, j, rfl, ⟨h1'.1, h1'.2, h2'.1, h2'.2⟩, q2 _ m2 H2 (e1.trans e2) S2.rel (itOk_rng (fun _ _ => ⟨rfl, fun _ => rfl⟩) rfl)⟩
  · exact q2.elim
theorem itOk_rngS {src : Src} (hs : ∀ st x, srcRes src st x = some x ∧ ∀ xs, srcIts src xs = xs) {lo c : Int} {n : Nat} {m : Mp} {H : Hp} : ItOk X.K X.mg G src (Itc lo c n) (rngS lo c n) m H := by
  have hl : (rngS lo c n).length = n := by simp [rngS]
  refine .of hs (fun m2 H2 x i d e => ?_) (fun m2 H2 x i h => by rw [hl] at h; exact h)
  have hi : i < n := by rw [← hl]; exact (List.getElem?_eq_some_iff.mp e).1
  unfold rngS at e
  rw [List.getElem?_map, List.getElem?_range hi] at e
  cases e
  refine ⟨hi, fun v H3 y => ?_⟩
  obtain ⟨e1, e2⟩ := y
  subst e1 e2
  exact ⟨rfl, .int _⟩
theorem i_rng3 {a b c : Ex} {tg ea eb ec : Expr} {p : Pos} (ok : XOk G C k W N sc X) (ha : PE X ea (tE X G C fl W a)) (hb : PE X eb (tE X G C fl W b)) (hc : PE X ec (tE X G C fl W c)) (hp : plB ea = true) (hp2 : plB eb = true) (hp3 : plB ec = true) (hg : Gl X "range") : PI X tg (.Call (.Name "range" p) [ea, eb, ec] [] pos) (tI X G C fl W (.rng3 a b c)) := by
  refine (pi_range3 hg ok.rng (pa_cons ha (pa_cons hb (pa_cons hc pa_nil (star_pl hp3)) (star_pl hp2)) (star_pl hp)) (star_pl hp) (by rw [star_pl hp2, star_pl hp3]; rfl)).im fun σ H R ⟨ρ, fls, st, m, S, q⟩ => ?_
  unfold evI at q
  refine t1 S q fun x st1 v m1 H1 e1 S1 r1 q1 => ?_
  refine t1 S1 q1 fun y st2 u m2 H2 e2 S2 r2 q2 => ?_
  refine t1 S2 q2 fun z st3 u3 m3 H3 e3 S3 r3 q3 => ?_
  cases r1 <;> first | exact q3.elim | skip
  cases r2 <;> first | exact q3.elim | skip
  cases r3 <;> first | exact q3.elim | skip
  rename_i i j c
  simp only at q3
  split at q3
  · rename_i hn
    obtain ⟨h1, h2, h3⟩ := hn
    exact ⟨i, j, c, _, rfl, ⟨by omega, by omega, h3, PyProof.Rows.rangeSize_toNat i j c⟩, q3 _ m3 H3 (e1.trans (e2.trans e3)) S3.rel (itOk_rngS (fun _ _ => ⟨rfl, fun _ => rfl⟩))⟩
  · exact q3.elim
/-- over a frozen list or tuple: by what it is -/
theorem i_seq {a : Ex} {tg e : Expr} (ok : XOk G C k W N sc X) (ha : PE X e (tE X G C fl W a)) : PI X tg e (tI X G C fl W (.seq a)) := by
  refine ⟨fun pins s σ H R I h => ?_⟩
  obtain ⟨ρ, fls, st, m, S, q⟩ := h
  unfold evI at q
  by_cases hk : ∃ x st1, evE G (C fl) fl ρ a st = .ok x st1 ∧ ((∃ xs, x = .tup xs) ∨ ∃ xs, x = .tk xs)
  · obtain ⟨x, st1, e1, hk⟩ := hk
    refine (pi_tup (tg := tg) ha).run pins s σ H R I ⟨ρ, fls, st, m, S, ?_⟩
    rw [e1, Out.bind_ok] at q
    rw [e1]
    intro v m1 H1 x1 R1 r1
    have go : ∀ {p : Addr} {vs : List V} {xs : List D}, SqT X.K H1 p vs → (∀ m2 H2, Grow m1 H1 m2 H2 → SqT X.K H2 p vs) → Reps X.K X.mg G m1 H1 xs vs → ItOk X.K X.mg G (.seq a) (Itt X.K p) xs m1 H1 := fun {p vs xs} hq st r => by
      refine .of (fun _ _ => ⟨rfl, fun _ => rfl⟩) (fun m2 H2 x i d e => ?_) (fun m2 H2 x i h => ⟨vs, st m2 H2 x, by rw [← r.length]; exact h⟩)
      obtain ⟨v, hv, rv⟩ := r.get e
      refine ⟨⟨vs, v, st m2 H2 x, hv⟩, fun v' H3 y => ?_⟩
      obtain ⟨e1, e2⟩ := y
      subst e1
      have := e2 vs (st m2 H3 x)
      rw [hv] at this
      cases this
      exact ⟨rfl, rv.gr x⟩
    rcases hk with ⟨xs, rfl⟩ | ⟨xs, rfl⟩
    · cases r1 with
      | tup n h r => exact ⟨_, rfl, ⟨_, SqT.of h⟩, q _ m1 H1 x1 R1 (go (SqT.of h) (fun m2 H2 g => SqT.of (g.old _ _ h n).1) r)⟩
    · cases r1 with
      | tk h r => exact ⟨_, rfl, ⟨_, .inr h⟩, q _ m1 H1 x1 R1 (go (.inr h) (fun m2 H2 g => .inr h) r)⟩
  · by_cases hks : ∃ x st1, evE G (C fl) fl ρ a st = .ok (.str x) st1
    · obtain ⟨x, st1, e1⟩ := hks
      refine (pi_str (tg := tg) ha).run pins s σ H R I ⟨ρ, fls, st, m, S, ?_⟩
      rw [e1, Out.bind_ok] at q
      rw [e1]
      intro v m1 H1 x1 R1 r1
      cases r1 with
      | str hok =>
        have hl : (chars x).length = x.cps.size := by unfold chars; simp
        refine ⟨x, rfl, q _ m1 H1 x1 R1 (.of (fun _ _ => ⟨rfl, fun _ => rfl⟩) (fun m2 H2 g i d e => ?_) fun m2 H2 g i h => by rw [hl] at h; exact h)⟩
        have hi : i < x.cps.size := by rw [← hl]; exact (List.getElem?_eq_some_iff.mp e).1
        unfold chars at e
        rw [List.getElem?_map, Array.getElem?_toList] at e
        refine ⟨hi, fun v' H3 y => ?_⟩
        obtain ⟨e1', c, hc, rfl⟩ := y
        rw [hc] at e
        cases e
        exact ⟨e1', .str (sign_ok hok (Array.mem_toList_iff.mpr (Array.mem_of_getElem? hc)))⟩
    · refine (pi_list (tg := tg) ha).run pins s σ H R I ⟨ρ, fls, st, m, S, ?_⟩
      cases e1 : evE G (C fl) fl ρ a st with
      | exc c fs s1 => rw [e1] at q; exact q
      | bad => rw [e1] at q; exact q
      | ok x st1 =>
        rw [e1, Out.bind_ok] at q
        intro v m1 H1 x1 R1 r1
        cases r1 with
        | lst n h r => exact ⟨_, rfl, ⟨_, SqL.of h⟩, q _ m1 H1 x1 R1 (itOk_list (fun _ _ => ⟨rfl, fun _ => rfl⟩) (SqL.of h) (fun m2 H2 g => SqL.of (g.old _ _ h n).1) r)⟩
        | fz n h r => exact ⟨_, rfl, ⟨_, .inl (.inr ⟨_, h⟩)⟩, q _ m1 H1 x1 R1 (itOk_list (fun _ _ => ⟨rfl, fun _ => rfl⟩) (.inl (.inr ⟨_, h⟩)) (fun m2 H2 g => .inl (.inr ⟨_, (g.old _ _ h n).1⟩)) r)⟩
        | fzK h r => exact ⟨_, rfl, ⟨_, .inr h⟩, q _ m1 H1 x1 R1 (itOk_list (fun _ _ => ⟨rfl, fun _ => rfl⟩) (.inr h) (fun m2 H2 g => .inr h) r)⟩
        | str hok => exact (hks ⟨_, _, e1⟩).elim
        | tup n h r => exact (hk ⟨_, _, e1, .inl ⟨_, rfl⟩⟩).elim
        | tk h r => exact (hk ⟨_, _, e1, .inr ⟨_, rfl⟩⟩).elim
        | _ => exact q.elim
/-- over a cell: each item is read anew -/
theorem i_cel {a : Ex} {tg e : Expr} (ok : XOk G C k W N sc X) (ha : PE X e (tE X G C fl W a)) : PI X tg e (tI X G C fl W (.cel a)) := by
  refine (pi_list (tg := tg) ha).im fun σ H R ⟨ρ, fls, st, m, S, q⟩ => ?_
  unfold evI at q
  refine t1 S q fun x st1 v m1 H1 x1 S1 r1 q1 => ?_
  cases r1 with
  | @ref n p hn =>
    dsimp only at q1
    cases hc : st1[n]? with
    | none => rw [hc] at q1; exact q1.elim
    | some c =>
      rw [hc] at q1
      cases c <;> first | exact q1.elim | skip
      rename_i ys
      dsimp only at q1
      have look : ∀ {fls : List Nat} {st2 : Sto} {m2 : Mp} {H2 : Hp} {zs : List D}, Grow m1 H1 m2 H2 → Rel X.K X.mg G fls st2 m2 H2 → st2[n]? = some (.lst zs) → ∃ vs, SqL X.K H2 p vs ∧ Reps X.K X.mg G m2 H2 zs vs := fun {fls st2 m2 H2 zs} g R2 e2 => by
        obtain ⟨o, h1, h2⟩ := R2.cell n _ p e2 (g.pre _ _ hn)
        cases h2 with
        | lst r => exact ⟨_, SqL.of h1, r⟩
      obtain ⟨vs0, hq0, r0⟩ := look ⟨fun _ _ e => e, fun _ _ e n => ⟨e, n⟩⟩ S1.rel hc
      refine ⟨p, rfl, ⟨vs0, hq0⟩, q1 _ m1 H1 x1 S1.rel ⟨fun fls2 st2 m2 H2 g R2 i d d' e e' => ?_, fun fls2 st2 m2 H2 g R2 e i hi => ?_⟩⟩
      · dsimp only [srcIts, List.tail_cons] at e
        unfold celIt at e
        rw [List.getElem?_map] at e
        have hlt : i < ys.length := by
          by_cases hlt : i < ys.length
          · exact hlt
          · rw [List.getElem?_eq_none (by simpa using hlt)] at e; cases e
        rw [List.getElem?_range hlt] at e
        cases e
        dsimp only [srcRes, itmD] at e'
        cases hc2 : st2[n]? with
        | none => rw [hc2] at e'; cases e'
        | some c2 =>
          rw [hc2] at e'
          cases c2 <;> first | cases e' | skip
          rename_i zs
          dsimp only at e'
          split at e'
          · rw [Int.toNat_natCast] at e'
            obtain ⟨vs, hq, r⟩ := look g R2 hc2
            obtain ⟨v, hv, rv⟩ := r.get e'
            refine ⟨⟨vs, v, hq, hv⟩, fun v' H3 y => ?_⟩
            obtain ⟨e1, e2⟩ := y
            subst e1
            have := e2 vs hq
            rw [hv] at this
            cases this
            exact ⟨rfl, rv⟩
          · cases e'
      · dsimp only [srcEnd] at e
        cases hc2 : st2[n]? with
        | none => rw [hc2] at e; cases e
        | some c2 =>
          rw [hc2] at e
          cases c2 <;> first | cases e | skip
          rename_i zs
          have e := of_decide_eq_true e
          obtain ⟨vs, hq, r⟩ := look g R2 hc2
          refine ⟨vs, hq, ?_⟩
          dsimp only [srcIts, List.tail_cons] at hi
          unfold celIt at hi
          rw [List.length_map, List.length_range] at hi
          rw [← r.length]
          omega
  | _ => exact q1.elim
theorem itOk_rev {src : Src} (hs : ∀ st x, srcRes src st x = some x ∧ ∀ xs, srcIts src xs = xs) {a : Addr} {vs : List V} {xs : List D} {m : Mp} {H : Hp} (hq : SqL X.K H a vs) (st : ∀ m2 H2, Grow m H m2 H2 → SqL X.K H2 a vs) (r : Reps X.K X.mg G m H xs vs) : ItOk X.K X.mg G src (Itv X.K a vs.length) xs.reverse m H := by
  have hl := r.length
  refine .of hs (fun m2 H2 x i d e => ?_) (fun m2 H2 x i h => by rw [List.length_reverse, hl] at h; exact h)
  have hi : i < xs.length := by have := (List.getElem?_eq_some_iff.mp e).1; rwa [List.length_reverse] at this
  rw [List.getElem?_reverse hi] at e
  obtain ⟨v, hv, rv⟩ := r.get e
  rw [hl] at hv
  refine ⟨⟨by omega, vs, v, st m2 H2 x, hv⟩, fun v' H3 y => ?_⟩
  obtain ⟨e1, e2⟩ := y
  subst e1
  have := e2 vs (st m2 H3 x)
  rw [hv] at this
  cases this
  exact ⟨rfl, rv.gr x⟩
theorem itOk_revT {src : Src} (hs : ∀ st x, srcRes src st x = some x ∧ ∀ xs, srcIts src xs = xs) {a : Addr} {vs : List V} {xs : List D} {m : Mp} {H : Hp} (hq : SqT X.K H a vs) (st : ∀ m2 H2, Grow m H m2 H2 → SqT X.K H2 a vs) (r : Reps X.K X.mg G m H xs vs) : ItOk X.K X.mg G src (RT.ItvT X.K a vs.length) xs.reverse m H := by
  have hl := r.length
  refine .of hs (fun m2 H2 x i d e => ?_) (fun m2 H2 x i h => by rw [List.length_reverse, hl] at h; exact h)
  have hi : i < xs.length := by have := (List.getElem?_eq_some_iff.mp e).1; rwa [List.length_reverse] at this
  rw [List.getElem?_reverse hi] at e
  obtain ⟨v, hv, rv⟩ := r.get e
  rw [hl] at hv
  refine ⟨⟨by omega, vs, v, st m2 H2 x, hv⟩, fun v' H3 y => ?_⟩
  obtain ⟨e1, e2⟩ := y
  subst e1
  have := e2 vs (st m2 H3 x)
  rw [hv] at this
  cases this
  exact ⟨rfl, rv.gr x⟩
theorem i_rev {a : Ex} {tg e : Expr} {p : Pos} (ok : XOk G C k W N sc X) (ha : PE X e (tE X G C fl W a)) (hp : plB e = true) (hg : Gl X "reversed") : PI X tg (.Call (.Name "reversed" p) [e] [] pos) (tI X G C fl W (.rev a)) := by
  refine (RT.pi_revA hg ok.rev ha (star_pl hp)).im fun σ H R ⟨ρ, fls, st, m, S, q⟩ => ?_
  unfold evI at q
  refine t1 S q fun x st1 v m1 H1 e1 S1 r1 q1 => ?_
  cases r1 with
  | lst n h r => exact ⟨_, _, rfl, .inl ⟨SqL.of h, q1 _ m1 H1 e1 S1.rel (itOk_rev (fun _ _ => ⟨rfl, fun _ => rfl⟩) (SqL.of h) (fun m2 H2 g => SqL.of (g.old _ _ h n).1) r)⟩⟩
  | fz n h r => exact ⟨_, _, rfl, .inl ⟨.inl (.inr ⟨_, h⟩), q1 _ m1 H1 e1 S1.rel (itOk_rev (fun _ _ => ⟨rfl, fun _ => rfl⟩) (.inl (.inr ⟨_, h⟩)) (fun m2 H2 g => .inl (.inr ⟨_, (g.old _ _ h n).1⟩)) r)⟩⟩
  | fzK h r => exact ⟨_, _, rfl, .inl ⟨.inr h, q1 _ m1 H1 e1 S1.rel (itOk_rev (fun _ _ => ⟨rfl, fun _ => rfl⟩) (.inr h) (fun m2 H2 g => .inr h) r)⟩⟩
  | tup n h r => exact ⟨_, _, rfl, .inr ⟨SqT.of h, q1 _ m1 H1 e1 S1.rel (itOk_revT (fun _ _ => ⟨rfl, fun _ => rfl⟩) (SqT.of h) (fun m2 H2 g => SqT.of (g.old _ _ h n).1) r)⟩⟩
  | tk h r => exact ⟨_, _, rfl, .inr ⟨.inr h, q1 _ m1 H1 e1 S1.rel (itOk_revT (fun _ _ => ⟨rfl, fun _ => rfl⟩) (.inr h) (fun m2 H2 g => .inr h) r)⟩⟩
  | _ => exact q1.elim
end
end Ev

set_option Elab.async false
set_option linter.all false
set_option maxRecDepth 100000
set_option maxHeartbeats 4000000
/-! Ev, part 12: comprehensions, tests. -/
namespace Ev
open PySem L2 PySem.Spec
open PyProof.Rows hiding St
def W0 : WX := fun _ _ _ _ => False
section
variable {X : Cx} {G : Prog} {C : Nat → Nat → List D → Sto → Out D} {fl k : Nat} {W : WX} {N : List Str} {sc : Scope} {pos : Pos}

/-- the block of a comprehension bears what a body bears -/
theorem XOk.blk (ok : XOk G C k W N sc X) (s : Shared) (H : Hp) (scope : Scope) (cl : List (Str × Addr)) (c : Addr) (fp : List Addr) : XOk G C k W0 N (relS scope sc) (X.blk s H scope (compEnvC scope cl c X.env) fp) where
  n := ok.n
  nd := ok.nd
  sc := by show relS scope X.env.scope = _; rw [ok.sc]
  calm := ok.calm
  room := ok.room
  tk := takes_none5
  blt := ok.blt
  rng := ok.rng
  rev := ok.rev
  tys := ok.tys
  exc := ok.exc
  fns := ok.fns
  cons := ok.cons
  dics := ok.dics

theorem wipe_in {τ : St} {i : Nat} : ∀ {vs : List Nat}, i ∈ vs → (wipe τ vs)[i]? = if i < τ.length then some none else none
  | [], h => by cases h
  | v :: vs, h => by
    unfold wipe
    by_cases e : v = i
    · subst e
      rw [List.getElem?_set, if_pos rfl, wipe_length]
    · rw [List.getElem?_set_ne e]
      exact wipe_in ((List.mem_cons.mp h).resolve_left fun z => e z.symm)
theorem wipe_idem (τ : St) (vs : List Nat) : wipe (wipe τ vs) vs = wipe τ vs := by
  apply List.ext_getElem?
  intro i
  by_cases h : i ∈ vs
  · rw [wipe_in h, wipe_in h, wipe_length]
  · rw [wipe_out h]
theorem tests_nil : PTs X [] (tTs X G C fl W .nil) := pts_nil.im fun σ H Q ⟨ρ, fls, st, m, S, q⟩ => by
  unfold evT at q
  exact q m H Ext.refl S.rel
theorem tests_one {a : Ex} {r : Exs} {e : Expr} (ha : PT X e (tT X G C fl W a)) : PTs X [e] (tTs X G C fl W (.cons a r)) := by
  refine (pts_one ha).im fun σ H Q ⟨ρ, fls, st, m, S, q⟩ => ?_
  unfold evT at q
  refine tT1 S q (fun x st1 h => ?_) fun b st1 m1 H1 e1 S1 q1 => q1 m1 H1 e1 S1.rel
  cases x <;> first | rfl | exact absurd rfl (h _)

theorem Post.noX {α β : Type} {K : PySem.W.Frag} {mg : Str → Option Value} {fls : List Nat} {m : Mp} {H : Hp} {E : XK} {o : Out α} {f : α → Sto → Out β} {R : β → Sto → Prop} (hf : ∀ a st, ∃ b st', f a st = .ok b st') (h : Post K mg G fls m H E (o.noX.bind f) R) : Post K mg G fls m H (fun _ _ _ => False) (o.bind f) R := by
  cases o with
  | ok a st =>
    obtain ⟨b, st', e⟩ := hf a st
    rw [Out.noX_ok, Out.bind_ok, e] at h
    rw [Out.bind_ok, e]
    exact h
  | exc c fs st => exact h.elim
  | bad => exact h.elim
theorem Post.noX' {α β : Type} {K : PySem.W.Frag} {mg : Str → Option Value} {fls : List Nat} {m : Mp} {H : Hp} {E : XK} {o : Out α} {f : α → Sto → Out β} {R : β → Sto → Prop} (hf : ∀ a st c fs s, f a st ≠ .exc c fs s) (h : Post K mg G fls m H E (o.noX.bind f) R) : Post K mg G fls m H (fun _ _ _ => False) (o.bind f) R := by
  cases o with
  | ok a st =>
    rw [Out.noX_ok, Out.bind_ok] at h
    rw [Out.bind_ok]
    cases e : f a st with
    | ok b st' => rw [e] at h; exact h
    | exc c fs s => exact (hf a st c fs s e).elim
    | bad => rw [e] at h; exact h
  | exc c fs st => exact h.elim
  | bad => exact h.elim
/-! ### displayed dicts -/
theorem RepK.put' {K : PySem.W.Frag} {mg : Str → Option Value} {m : Mp} {H : Hp} {ds : List (Key × D)} {kvs : List (Key × V)} (r : RepK K mg G m H ds kvs) {d : D} {v : V} (q : Rep K mg G m H d v) (k : Key) : RepK K mg G m H (dput ds k d) (putK kvs k v) := by
  have any : ∀ {ds : List (Key × D)} {kvs : List (Key × V)}, RepK K mg G m H ds kvs → (ds.any fun kv => decide (kv.1 = k)) = kvs.any fun kv => decide (kv.1 = k) := by
    intro ds
    induction ds with
    | nil => intro kvs r; cases r; rfl
    | cons p ds ih => intro kvs r; cases r with | cons a t => simp only [List.any_cons, ih t]
  have mapp : ∀ {ds : List (Key × D)} {kvs : List (Key × V)}, RepK K mg G m H ds kvs → RepK K mg G m H (ds.map fun kv => if kv.1 = k then (kv.1, d) else kv) (kvs.map fun kv => if kv.1 = k then (kv.1, v) else kv) := by
    intro ds
    induction ds with
    | nil => intro kvs r; cases r; exact .nil
    | cons p ds ih =>
      intro kvs r
      cases r with
      | @cons k0 d0 v0 _ _ a t =>
        simp only [List.map_cons]
        by_cases e : k0 = k
        · rw [if_pos e, if_pos e]; exact .cons q (ih t)
        · rw [if_neg e, if_neg e]; exact .cons a (ih t)
  have app : ∀ {ds : List (Key × D)} {kvs : List (Key × V)}, RepK K mg G m H ds kvs → RepK K mg G m H (ds ++ [(k, d)]) (kvs ++ [(k, v)]) := by
    intro ds
    induction ds with
    | nil => intro kvs r; cases r; exact .cons q .nil
    | cons p ds ih => intro kvs r; cases r with | cons a t => exact .cons a (ih t)
  unfold dput putK
  rw [any r]
  split
  · exact mapp r
  · exact app r
theorem RepK.merge {K : PySem.W.Frag} {mg : Str → Option Value} {m : Mp} {H : Hp} {ds : List (Key × D)} : ∀ {kvs : List (Key × V)} {ds0 : List (Key × D)} {kvs0 : List (Key × V)}, RepK K mg G m H ds kvs → RepK K mg G m H ds0 kvs0 →
    RepK K mg G m H (ds.foldl (fun a p => dput a p.1 p.2) ds0) (mergeK kvs0 kvs) := by
  induction ds with
  | nil => intro kvs ds0 kvs0 r r0; cases r; exact r0
  | cons p ds ih => intro kvs ds0 kvs0 r r0; cases r with | @cons k d v _ _ a t =>
    have h := ih t (r0.put' a k)
    exact h
theorem RepK.length {K : PySem.W.Frag} {mg : Str → Option Value} {m : Mp} {H : Hp} : ∀ {ds : List (Key × D)} {kvs : List (Key × V)}, RepK K mg G m H ds kvs → ds.length = kvs.length
  | [], _, r => by cases r; rfl
  | p :: ds, _, r => by cases r with | cons a t => simp [RepK.length t]
theorem dput_len {ds : List (Key × D)} {k : Key} {d : D} : (dput ds k d).length ≤ ds.length + 1 := by
  unfold dput
  split <;> simp
theorem dc_imp {kx vx : Ex} {tg : Tg} {src : Src} {test : Exs} {own : List Nat} (htg : ∀ i ∈ tgIx tg, i ∈ own) : ∀ σ H Q, tF X G C fl W (.dc kx vx tg src test own) σ H Q →
    tDc (tI X G C fl W src) (gT X.K tg) (tTs X G C fl W0 test) (tE X G C fl W0 kx) (tE X G C fl W0 vx) own σ H Q := by
  intro σ H Q ⟨ρ, fls, st, m, S, q⟩
  unfold evE at q
  refine ⟨ρ, fls, st, m, S, ?_⟩
  cases e : evI G (C fl) fl ρ src st with
  | exc c fs s1 => rw [e] at q; exact q
  | bad => rw [e] at q; exact q
  | ok xs st1 =>
  rw [e, Out.bind_ok] at q
  intro J m1 H1 e1 R1 it L hL
  by_cases hz : xs.length ≤ SZ
  case neg => rw [if_neg hz] at q; exact q.elim
  rw [if_pos hz] at q
  rw [SZ_eq] at hz
  generalize hf : (fun (x : D) (st : Sto) => match srcRes src st x with
          | some x => (match asg (wipeD ρ own) tg x with
            | some ρ' => (evT G (C fl) fl ρ' test st).bind fun b st => if b = true then (evE G (C fl) fl ρ' kx st).bind fun kd st => (evE G (C fl) fl ρ' vx st).bind fun d st => (match keyD kd with
              | some key => Out.ok (some (key, d)) st
              | none => Out.bad) else Out.ok none st
            | none => Out.bad)
          | none => Out.bad) = f at q
  obtain ⟨ys, hys⟩ : ∃ ys, srcIts src xs = ys := ⟨_, rfl⟩
  have hzy : ys.length ≤ xs.length := by
    rw [← hys]
    cases src with
    | cel a => show xs.tail.length ≤ _; rw [List.length_tail]; omega
    | _ => exact Nat.le_refl _
  have itg := it.go
  have itst := it.stop
  rw [hys] at q itg itst
  refine ⟨fun i n Hc => n = ys.length - i ∧ i ≤ ys.length ∧ ∃ sti mi Hm acc accD, Hc = upd Hm L (.dK acc) ∧ Hm L = none ∧ Ext m1 H1 mi Hm ∧ Rel X.K X.mg G fls sti mi Hm ∧ RepK X.K X.mg G mi Hm accD acc ∧ accD.length ≤ i ∧
    Post X.K X.mg G fls m1 H1 (fun _ _ _ => False) ((dcGo f (ys.drop i) accD sti).bind fun r st => if srcEnd src xs st = true then .ok (.dk r) st else .bad) (fun d st' => QD X.K X.mg G fls st' m1 H1 d Q), ⟨ys.length, by simp, Nat.zero_le _, st1, m1, H1, [], [], rfl, hL, Ext.refl, R1, .nil, Nat.le_refl _, ?_⟩, ?_⟩
  · simp only [List.drop_zero]
    exact (Post.ext e1 (Post.noX' (fun a st c fs s => by split <;> exact fun z => nomatch z) q)).imp fun d s h => QD.ext e1 h
  rintro i n Hc ⟨rfl, hi, sti, mi, Hm, acc, accD, rfl, hDm, x1, Ri, rA, hA, qi⟩
  have gmi : Grow m1 H1 (mi.hide L) (upd Hm L (.dK acc)) := x1.grow.trans (Grow.hide hDm)
  by_cases hlt : i < ys.length
  · right
    rw [List.drop_eq_getElem_cons hlt] at qi
    simp only [dcGo] at qi
    rw [Out.bind_assoc] at qi
    have fe : f ys[i] sti = match srcRes src sti ys[i] with
          | some x => (match asg (wipeD ρ own) tg x with
            | some ρ' => (evT G (C fl) fl ρ' test sti).bind fun b st => if b = true then (evE G (C fl) fl ρ' kx st).bind fun kd st => (evE G (C fl) fl ρ' vx st).bind fun d st => (match keyD kd with
              | some key => Out.ok (some (key, d)) st
              | none => Out.bad) else Out.ok none st
            | none => Out.bad)
          | none => Out.bad := by rw [← hf]
    rw [fe] at qi
    cases hres : srcRes src sti ys[i] with
    | none => rw [hres] at qi; exact qi.elim
    | some x0 =>
    rw [hres] at qi
    dsimp only at qi
    obtain ⟨hgo, hyl⟩ := itg fls sti _ _ gmi (Ri.hide hDm) i ys[i] x0 (List.getElem?_eq_getElem hlt) hres
    refine ⟨hgo, _, fun H' h' => ⟨ys.length - (i + 1), by omega, h'⟩, fun v H' y => ?_⟩
    obtain ⟨rfl, rv⟩ := hyl v H' y
    have hfll : fl ≤ sti.length := by
      have h1 := (S.ext e1 R1).fll
      have := x1.le
      rw [R1.len, Ri.len] at this
      omega
    cases ha : asg (wipeD ρ own) tg x0 with
    | none => rw [ha] at qi; exact qi.elim
    | some ρ' =>
      rw [ha] at qi
      dsimp only at qi
      have Ew : EnvR X.K X.mg G (mi.hide L) (upd Hm L (.dK acc)) (wipeD ρ own) (wipe σ own) := ((S.env.ext e1).gr gmi).wipe own
      refine asg_read ha rv Ew fun σ2 E2 hw => ⟨(hw own htg).trans (wipe_idem σ own), ?_⟩
      have S2 : Stt X.K X.mg G fl fls sti (mi.hide L) (upd Hm L (.dK acc)) ρ' σ2 := ⟨Ri.hide hDm, S.flf, hfll, E2⟩
      refine ⟨ρ', fls, sti, _, S2, ?_⟩
      cases et : evT G (C fl) fl ρ' test sti with
      | exc c fs s1 =>
        rw [et] at qi
        intro cls dd m2 H2 x2 R2 er
        obtain ⟨xs', hD2, hh, hnm⟩ := Ext.show Ri hDm x2
        exact qi cls dd _ _ (x1.trans xs') (R2.show hh hnm) er
      | bad => rw [et] at qi; exact qi.elim
      | ok b st2 =>
        rw [et] at qi
        simp only [Out.bind_ok] at qi
        intro m2 H2 x2 R2
        cases b with
        | false =>
          simp only [Bool.false_eq_true, if_false, Out.bind_ok] at qi ⊢
          obtain ⟨xs', hD2, hh, hnm⟩ := Ext.show Ri hDm x2
          exact ⟨trivial, hlt, st2, m2.show mi.h, cut H2 L, acc, accD, (upd_cut hD2).symm, cut_same, x1.trans xs', R2.show hh hnm, rA.ext xs', by omega, qi⟩
        | true =>
          simp only [if_true] at qi ⊢
          refine ⟨ρ', fls, st2, m2, S2.ext x2 R2, ?_⟩
          cases ek : evE G (C fl) fl ρ' kx st2 with
          | exc c fs s1 =>
            rw [ek] at qi
            intro cls dd m3 H3 x3 R3 er
            obtain ⟨xs', hD2, hh, hnm⟩ := Ext.show Ri hDm (x2.trans x3)
            exact qi cls dd _ _ (x1.trans xs') (R3.show hh hnm) er
          | bad => rw [ek] at qi; exact qi.elim
          | ok kd st3 =>
            rw [ek] at qi
            simp only [Out.bind_ok] at qi
            intro yk m3 H3 x3 R3 rk
            refine ⟨ρ', fls, st3, m3, (S2.ext x2 R2).ext x3 R3, ?_⟩
            cases ee : evE G (C fl) fl ρ' vx st3 with
            | exc c fs s1 =>
              rw [ee] at qi
              intro cls dd m4 H4 x4 R4 er
              obtain ⟨xs', hD2, hh, hnm⟩ := Ext.show Ri hDm ((x2.trans x3).trans x4)
              exact qi cls dd _ _ (x1.trans xs') (R4.show hh hnm) er
            | bad => rw [ee] at qi; exact qi.elim
            | ok d st4 =>
              rw [ee] at qi
              simp only [Out.bind_ok] at qi
              cases hkey : keyD kd with
              | none => rw [hkey] at qi; exact qi.elim
              | some key =>
                rw [hkey] at qi
                simp only [Out.bind_ok] at qi
                intro y m4 H4 x4 R4 ry
                obtain ⟨xs', hD4, hh, hnm⟩ := Ext.show Ri hDm ((x2.trans x3).trans x4)
                have hl2 : acc.length < sizeLine := by rw [← rA.length]; omega
                have hd := dput_len (ds := accD) (k := key) (d := d)
                exact ⟨acc, key, keyD_rep hkey rk, hD4, hl2, trivial, hlt, st4, m4.show mi.h, cut H4 L, _, _, upd_cut'.symm, cut_same, x1.trans xs', R4.show hh hnm, (rA.ext xs').put' (ry.gr (Grow.show hh)) key, by omega, qi⟩
  · left
    have hi2 : i = ys.length := by omega
    subst hi2
    rw [List.drop_length] at qi
    simp only [dcGo, Out.bind_ok] at qi
    by_cases hend : srcEnd src xs sti = true
    · rw [if_pos hend] at qi
      refine ⟨itst fls sti _ _ gmi (Ri.hide hDm) hend _ (Nat.le_refl _), ?_⟩
      have q2 : QF X.K X.mg G fls sti m1 H1 (.dk accD) Q := qi
      exact q2 L _ mi Hm x1 Ri hDm (.dk rA)
    · rw [if_neg hend] at qi
      exact qi.elim
theorem lc_imp {elt : Ex} {tg : Tg} {src : Src} {test : Exs} {own : List Nat} (htg : ∀ i ∈ tgIx tg, i ∈ own) : ∀ σ H Q, tF X G C fl W (.lc elt tg src test own) σ H Q →
    tLc (tI X G C fl W src) (gT X.K tg) (tTs X G C fl W0 test) (tE X G C fl W0 elt) own σ H Q := by
  intro σ H Q ⟨ρ, fls, st, m, S, q⟩
  unfold evE at q
  refine ⟨ρ, fls, st, m, S, ?_⟩
  cases e : evI G (C fl) fl ρ src st with
  | exc c fs s1 => rw [e] at q; exact q
  | bad => rw [e] at q; exact q
  | ok xs st1 =>
  rw [e, Out.bind_ok] at q
  intro J m1 H1 e1 R1 it L hL
  by_cases hz : xs.length ≤ SZ
  case neg => rw [if_neg hz] at q; exact q.elim
  rw [if_pos hz] at q
  rw [SZ_eq] at hz
  generalize hf : (fun (x : D) (st : Sto) => match srcRes src st x with
          | some x => (match asg (wipeD ρ own) tg x with
            | some ρ' => (evT G (C fl) fl ρ' test st).bind fun b st => if b = true then (evE G (C fl) fl ρ' elt st).bind fun d st => Out.ok (some d) st else Out.ok none st
            | none => Out.bad)
          | none => Out.bad) = f at q
  obtain ⟨ys, hys⟩ : ∃ ys, srcIts src xs = ys := ⟨_, rfl⟩
  have hzy : ys.length ≤ xs.length := by
    rw [← hys]
    cases src with
    | cel a => show xs.tail.length ≤ _; rw [List.length_tail]; omega
    | _ => exact Nat.le_refl _
  have itg := it.go
  have itst := it.stop
  rw [hys] at q itg itst
  refine ⟨fun i n Hc => n = ys.length - i ∧ i ≤ ys.length ∧ ∃ sti mi Hm acc accD, Hc = upd Hm L (.lst acc) ∧ Hm L = none ∧ Ext m1 H1 mi Hm ∧ Rel X.K X.mg G fls sti mi Hm ∧ Reps X.K X.mg G mi Hm accD acc ∧ acc.length ≤ i ∧
    Post X.K X.mg G fls m1 H1 (fun _ _ _ => False) ((lcGo f (ys.drop i) sti).bind fun r st => if srcEnd src xs st = true then .ok (.lst (accD ++ r)) st else .bad) (fun d st' => QD X.K X.mg G fls st' m1 H1 d Q), ⟨ys.length, by simp, Nat.zero_le _, st1, m1, H1, [], [], rfl, hL, Ext.refl, R1, .nil, Nat.le_refl _, ?_⟩, ?_⟩
  · simp only [List.drop_zero, List.nil_append]
    exact (Post.ext e1 (Post.noX' (fun a st c fs s => by split <;> exact fun z => nomatch z) q)).imp fun d s h => QD.ext e1 h
  rintro i n Hc ⟨rfl, hi, sti, mi, Hm, acc, accD, rfl, hDm, x1, Ri, rA, hA, qi⟩
  have gmi : Grow m1 H1 (mi.hide L) (upd Hm L (.lst acc)) := x1.grow.trans (Grow.hide hDm)
  by_cases hlt : i < ys.length
  · right
    rw [List.drop_eq_getElem_cons hlt] at qi
    simp only [lcGo] at qi
    rw [Out.bind_assoc] at qi
    have fe : f ys[i] sti = match srcRes src sti ys[i] with
          | some x => (match asg (wipeD ρ own) tg x with
            | some ρ' => (evT G (C fl) fl ρ' test sti).bind fun b st => if b = true then (evE G (C fl) fl ρ' elt st).bind fun d st => Out.ok (some d) st else Out.ok none st
            | none => Out.bad)
          | none => Out.bad := by rw [← hf]
    rw [fe] at qi
    cases hres : srcRes src sti ys[i] with
    | none => rw [hres] at qi; exact qi.elim
    | some x0 =>
    rw [hres] at qi
    dsimp only at qi
    obtain ⟨hgo, hyl⟩ := itg fls sti _ _ gmi (Ri.hide hDm) i ys[i] x0 (List.getElem?_eq_getElem hlt) hres
    refine ⟨hgo, _, fun H' h' => ⟨ys.length - (i + 1), by omega, h'⟩, fun v H' y => ?_⟩
    obtain ⟨rfl, rv⟩ := hyl v H' y
    have hfll : fl ≤ sti.length := by
      have h1 := (S.ext e1 R1).fll
      have := x1.le
      rw [R1.len, Ri.len] at this
      omega
    cases ha : asg (wipeD ρ own) tg x0 with
    | none => rw [ha] at qi; exact qi.elim
    | some ρ' =>
      rw [ha] at qi
      dsimp only at qi
      have Ew : EnvR X.K X.mg G (mi.hide L) (upd Hm L (.lst acc)) (wipeD ρ own) (wipe σ own) := ((S.env.ext e1).gr gmi).wipe own
      refine asg_read ha rv Ew fun σ2 E2 hw => ⟨(hw own htg).trans (wipe_idem σ own), ?_⟩
      have S2 : Stt X.K X.mg G fl fls sti (mi.hide L) (upd Hm L (.lst acc)) ρ' σ2 := ⟨Ri.hide hDm, S.flf, hfll, E2⟩
      refine ⟨ρ', fls, sti, _, S2, ?_⟩
      cases et : evT G (C fl) fl ρ' test sti with
      | exc c fs s1 =>
        rw [et] at qi
        intro cls dd m2 H2 x2 R2 er
        obtain ⟨xs', hD2, hh, hnm⟩ := Ext.show Ri hDm x2
        exact qi cls dd _ _ (x1.trans xs') (R2.show hh hnm) er
      | bad => rw [et] at qi; exact qi.elim
      | ok b st2 =>
        rw [et] at qi
        simp only [Out.bind_ok] at qi
        intro m2 H2 x2 R2
        cases b with
        | false =>
          simp only [Bool.false_eq_true, if_false, Out.bind_ok] at qi ⊢
          obtain ⟨xs', hD2, hh, hnm⟩ := Ext.show Ri hDm x2
          refine ⟨trivial, hlt, st2, m2.show mi.h, cut H2 L, acc, accD, (upd_cut hD2).symm, cut_same, x1.trans xs', R2.show hh hnm, rA.ext xs', by omega, ?_⟩
          rw [Out.bind_assoc] at qi
          exact qi
        | true =>
          simp only [if_true] at qi ⊢
          refine ⟨ρ', fls, st2, m2, S2.ext x2 R2, ?_⟩
          cases ee : evE G (C fl) fl ρ' elt st2 with
          | exc c fs s1 =>
            rw [ee] at qi
            intro cls dd m3 H3 x3 R3 er
            obtain ⟨xs', hD2, hh, hnm⟩ := Ext.show Ri hDm (x2.trans x3)
            exact qi cls dd _ _ (x1.trans xs') (R3.show hh hnm) er
          | bad => rw [ee] at qi; exact qi.elim
          | ok d st3 =>
            rw [ee] at qi
            simp only [Out.bind_ok] at qi
            intro y m3 H4 x3 R3 ry
            obtain ⟨xs', hD4, hh, hnm⟩ := Ext.show Ri hDm (x2.trans x3)
            refine ⟨acc, hD4, by omega, trivial, hlt, st3, m3.show mi.h, cut H4 L, acc ++ [y], accD ++ [d], upd_cut'.symm, cut_same, x1.trans xs', R3.show hh hnm, (rA.ext xs').app (.cons (ry.gr (Grow.show hh)) .nil), by simp; omega, ?_⟩
            rw [Out.bind_assoc] at qi
            simp only [Out.bind_ok] at qi
            simp only [List.append_assoc, List.cons_append, List.nil_append]
            exact qi
  · left
    have hi2 : i = ys.length := by omega
    subst hi2
    rw [List.drop_length] at qi
    simp only [lcGo, Out.bind_ok, List.append_nil] at qi
    by_cases hend : srcEnd src xs sti = true
    · rw [if_pos hend] at qi
      refine ⟨itst fls sti _ _ gmi (Ri.hide hDm) hend _ (Nat.le_refl _), ?_⟩
      have q2 : QF X.K X.mg G fls sti m1 H1 (.lst accD) Q := qi
      exact q2 L _ mi Hm x1 Ri hDm (.lst rA)
    · rw [if_neg hend] at qi
      exact qi.elim

theorem c_disp {ps : Prs} {ks : List (Option Expr)} {vs : List Expr} {trs : List (TE × TE)} (hp : PPs X pos ks vs trs) (hr : ∀ σ H Q, tPs X G C fl W ps σ H Q → tPairs trs σ H Q) (h1 : ks.all (·.isSome) = true) (h2 : ks.length = vs.length) (h3 : ks ≠ []) (h4 : ks.length ≤ 15)
    (hlen : ∀ ρ st kds st', evPs G (C fl) fl ρ ps st = .ok kds st' → kds.length = ks.length) :
    PE X (.Dict ks vs pos) (tF X G C fl W (.dicE ps)) := by
  refine (pe_disp hp h1 h2 h3 h4).im fun σ H Q ⟨ρ, fls, st, m, S, q⟩ p hn => ?_
  unfold evE at q
  refine hr _ _ _ ⟨ρ, fls, st, m.hide p, ⟨S.rel.hide hn, S.flf, S.fll, S.env.gr (Grow.hide hn)⟩, ?_⟩
  have q := Post.noX (fun a st => ⟨_, _, rfl⟩) q
  cases e : evPs G (C fl) fl ρ ps st with
  | exc c fs s1 =>
    rw [e] at q
    intro cls dd m2 H2 x2 R2 er
    obtain ⟨xs', hD2, hh, hnm⟩ := Ext.show S.rel hn x2
    exact (q cls dd _ _ xs' (R2.show hh hnm) er).elim
  | bad => rw [e] at q; exact q
  | ok kds st1 =>
    rw [e, Out.bind_ok] at q
    have hl := hlen ρ st kds st1 e
    intro kvs m2 H2 x2 R2 r2
    obtain ⟨xs', hD, hh, hnm⟩ := Ext.show S.rel hn x2
    have hk : kvs.length ≤ 15 := by
      have : ∀ {ds : List (Key × D)} {kvs : List (Key × V)}, RepK X.K X.mg G m2 H2 ds kvs → ds.length = kvs.length := by
        intro ds
        induction ds with
        | nil => intro kvs r; cases r; rfl
        | cons p ds ih => intro kvs r; cases r with | cons a t => simp [ih t]
      rw [← this r2, hl]; exact h4
    refine ⟨hD, kvs, rfl, hk, ?_⟩
    have q2 : QF X.K X.mg G fls st1 m H (.dk (kds.foldl (fun a p => dput a p.1 p.2) [])) Q := q
    have := q2 p (.dK (mergeK [] kvs)) (m2.show m.h) (cut H2 p) xs' (R2.show hh hnm) cut_same (.dk (RepK.merge (r2.gr (Grow.show hh)) .nil))
    rw [upd_cut'] at this
    exact this
theorem ps_nil : ∀ σ H Q, tPs X G C fl W .nil σ H Q → tPairs [] σ H Q := fun σ H Q ⟨ρ, fls, st, m, S, q⟩ => by
  unfold evPs at q
  exact q [] m H Ext.refl S.rel .nil
theorem ps_cons {a b : Ex} {r : Prs} {trs : List (TE × TE)} (hr : ∀ σ H Q, tPs X G C fl W r σ H Q → tPairs trs σ H Q) : ∀ σ H Q, tPs X G C fl W (.cons a b r) σ H Q → tPairs ((tE X G C fl W a, tE X G C fl W b) :: trs) σ H Q := fun σ H Q ⟨ρ, fls, st, m, S, q⟩ => by
  unfold evPs at q
  refine t1 S q fun x st1 v m1 H1 e1 S1 r1 q1 => ?_
  refine t1 S1 q1 fun y st2 u m2 H2 e2 S2 r2 q2 => ?_
  cases ek : keyD x with
  | none => rw [ek] at q2; exact q2.elim
  | some key =>
    rw [ek] at q2
    dsimp only at q2
    refine hr _ _ _ ⟨ρ, fls, st2, m2, S2, ?_⟩
    cases e : evPs G (C fl) fl ρ r st2 with
    | exc c fs s1 => rw [e] at q2; exact q2
    | bad => rw [e] at q2; exact q2
    | ok kds st3 =>
      rw [e, Out.bind_ok] at q2
      intro kvs m3 H3 x3 R3 r3
      have hv := keyD_rep ek r1
      subst hv
      exact q2 ((key, u) :: kvs) m3 H3 ((e1.trans e2).trans x3) R3 (.cons (r2.ext x3) r3)
end
end Ev

set_option Elab.async false
set_option linter.all false
set_option maxRecDepth 100000
set_option maxHeartbeats 4000000
/-! Ev, part 13: every expression does what the evaluator says. -/
namespace Ev
open PySem L2 PySem.Spec
open PyProof.Rows hiding St
section
variable {X : Cx} {G : Prog} {C : Nat → Nat → List D → Sto → Out D} {fl k : Nat} {W : WX} {N : List Str} {sc : Scope} {pos : Pos}

theorem tT_E {x : Ex} {σ : St} {H : Hp} {Q : Bool → Hp → Prop} (h : tT X G C fl W x σ H Q) : tB (tE X G C fl W x) σ H Q := by
  obtain ⟨ρ, fls, st, m, S, q⟩ := h
  refine ⟨ρ, fls, st, m, S, q.imp fun d s h => ?_⟩
  obtain ⟨b, rfl, h⟩ := h
  intro v m' H' e R r
  cases r
  exact ⟨b, rfl, h m' H' e R⟩
theorem p_val {x : Ex} {e : Expr} (h : PE X e (tE X G C fl W x)) (he : ∀ whole, isTrue e X.env whole = (do let v ← whole; standAt e.pos; holding [v] (truthy v))) : PT X e (tT X G C fl W x) :=
  (pt_val h he).im fun _ _ _ q => tT_E q
theorem p_not {a : Ex} {ea : Expr} (ha : PT X ea (tT X G C fl W a)) : PT X (.UnaryOp .Not ea pos) (tT X G C fl W (.nt a)) := by
  refine (pt_not ha).im fun σ H Q ⟨ρ, fls, st, m, S, q⟩ => ?_
  unfold evE at q
  refine tT1 S q (fun x st1 h => ?_) fun b st1 m1 H1 e1 S1 q1 => ?_
  · cases x <;> first | rfl | exact absurd rfl (h _)
  · obtain ⟨c, h1, h2⟩ := q1
    cases h1
    exact h2 m1 H1 e1 S1.rel
/-- a comparison's truth -/
theorem p_cmp {op : COp} {a b : Ex} {ea eb : Expr} (ok : XOk G C k W N sc X) (ha : PE X ea (tE X G C fl W a)) (hb : PE X eb (tE X G C fl W b)) (hm : behindInMarks (copOf op) eb = false) :
    PT X (.Compare ea [copOf op] [eb] pos) (tT X G C fl W (.cmp op a b)) := by
  refine (pt_cmpR opAny ha hb hm).im fun σ H Q ⟨ρ, fls, st, m, S, q⟩ => ?_
  unfold evE at q
  refine t1 S q fun x st1 v m1 H1 e1 S1 r1 q1 => ?_
  refine t1 S1 q1 fun y st2 u m2 H2 e2 S2 r2 q2 => ?_
  cases hd : cmpD st2 op x y with
  | none => rw [hd] at q2; exact q2.elim
  | some d =>
    rw [hd] at q2
    obtain ⟨c, h1, h2⟩ := q2
    cases h1
    obtain ⟨r, h3, h4⟩ := cmpD_ok (X := X) (G := G) (units_of ok) hd
    exact ⟨r, h3, h4 _ _ _ _ _ _ S2.rel (r1.ext e2) r2 ⟨d, rfl, h2 m2 H2 (e1.trans e2) S2.rel⟩⟩
theorem p_chain {op op2 : COp} {a b c : Ex} {ea eb ec : Expr} (ok : XOk G C k W N sc X) (ha : PE X ea (tE X G C fl W a)) (hb : PE X eb (tE X G C fl W b)) (hc : PE X ec (tE X G C fl W c)) (hm : lastMarks [copOf op, copOf op2] [eb, ec] = false) :
    PT X (.Compare ea [copOf op, copOf op2] [eb, ec] pos) (tT X G C fl W (.chain op op2 a b c)) := by
  refine (pt_chain opAny opAny ha hb hc hm).im fun σ H Q ⟨ρ, fls, st, m, S, q⟩ => ?_
  unfold evE at q
  refine t1 S q fun x st1 v m1 H1 e1 S1 r1 q1 => ?_
  refine t1 S1 q1 fun y st2 u m2 H2 e2 S2 r2 q2 => ?_
  cases hd : cmpD st2 op x y with
  | none => rw [hd] at q2; exact q2.elim
  | some d =>
    rw [hd] at q2
    obtain ⟨r, h1, h2⟩ := cmpD_ok (X := X) (G := G) (units_of ok) hd
    refine ⟨r, h1, h2 _ _ _ _ _ _ S2.rel (r1.ext e2) r2 ⟨d, rfl, ?_⟩⟩
    cases d with
    | false =>
      rw [if_neg Bool.false_ne_true]
      obtain ⟨c, h3, h4⟩ := q2
      cases h3
      exact ⟨_, rfl, h4 m2 H2 (e1.trans e2) S2.rel⟩
    | true =>
      rw [if_pos rfl]
      refine t1 S2 q2 fun z st3 w m3 H3 e3 S3 r3 q3 => ?_
      cases hd2 : cmpD st3 op2 y z with
      | none => rw [hd2] at q3; exact q3.elim
      | some d2 =>
        rw [hd2] at q3
        obtain ⟨c, h3, h4⟩ := q3
        cases h3
        obtain ⟨r', h1, h2⟩ := cmpD_ok (X := X) (G := G) (units_of ok) hd2
        exact ⟨r', h1, h2 _ _ _ _ _ _ S3.rel (r2.ext e3) r3 ⟨_, rfl, h4 m3 H3 (e1.trans (e2.trans e3)) S3.rel⟩⟩
theorem p_isN {a : Ex} {ea : Expr} {j : Nat} {p2 : Pos} (ha : PE X ea (tE X G C fl W a)) : PT X (.Compare ea [.Is] [.Constant .none j p2] pos) (tT X G C fl W (.isN a)) := by
  refine (pt_cmp (pc_isN ha) rfl).im fun σ H Q ⟨ρ, fls, st, m, S, q⟩ => ?_
  unfold evE at q
  refine t1 S q fun x st1 v m1 H1 e1 S1 r1 q1 => ?_
  obtain ⟨c, h1, h2⟩ := q1
  cases h1
  exact ⟨_, rfl, by rw [non_rep r1]; exact h2 m1 H1 e1 S1.rel⟩
theorem p_notN {a : Ex} {ea : Expr} {j : Nat} {p2 : Pos} (ha : PE X ea (tE X G C fl W a)) : PT X (.Compare ea [.IsNot] [.Constant .none j p2] pos) (tT X G C fl W (.notN a)) := by
  refine (pt_cmp (pc_notN ha) rfl).im fun σ H Q ⟨ρ, fls, st, m, S, q⟩ => ?_
  unfold evE at q
  refine t1 S q fun x st1 v m1 H1 e1 S1 r1 q1 => ?_
  obtain ⟨c, h1, h2⟩ := q1
  cases h1
  exact ⟨_, rfl, by rw [non_rep r1]; exact h2 m1 H1 e1 S1.rel⟩
theorem p_isB {a : Ex} {ea : Expr} {b : Bool} {j : Nat} {p2 : Pos} (ha : PE X ea (tE X G C fl W a)) : PT X (.Compare ea [.Is] [.Constant (.bool b) j p2] pos) (tT X G C fl W (.isB a b)) := by
  refine (pt_cmpR op_isBl ha pe_bl (nomark _)).im fun σ H Q ⟨ρ, fls, st, m, S, q⟩ => ?_
  unfold evE at q
  refine t1 S q fun x st1 v m1 H1 e1 S1 r1 q1 => ?_
  cases r1 <;> first | exact q1.elim | skip
  obtain ⟨c, h1, h2⟩ := q1
  cases h1
  exact ⟨_, _, rfl, rfl, _, rfl, h2 m1 H1 e1 S1.rel⟩
theorem p_notB {a : Ex} {ea : Expr} {b : Bool} {j : Nat} {p2 : Pos} (ha : PE X ea (tE X G C fl W a)) : PT X (.Compare ea [.IsNot] [.Constant (.bool b) j p2] pos) (tT X G C fl W (.notB a b)) := by
  refine (pt_cmpR op_notBl ha pe_bl (nomark _)).im fun σ H Q ⟨ρ, fls, st, m, S, q⟩ => ?_
  unfold evE at q
  refine t1 S q fun x st1 v m1 H1 e1 S1 r1 q1 => ?_
  cases r1 <;> first | exact q1.elim | skip
  obtain ⟨c, h1, h2⟩ := q1
  cases h1
  exact ⟨_, _, rfl, rfl, _, rfl, h2 m1 H1 e1 S1.rel⟩
end

/-- what is shown of an expression -/
structure FEx (X : Cx) (G : Prog) (C : Nat → Nat → List D → Sto → Out D) (fl : Nat) (W : WX) (x : Ex) (e : Expr) : Prop where
  pe : PE X e (tE X G C fl W x)
  pf : isF x = true → PE X e (tF X G C fl W x)
  pt : tsOk x = true → PT X e (tT X G C fl W x)
structure FExs (X : Cx) (G : Prog) (C : Nat → Nat → List D → Sto → Out D) (fl : Nat) (W : WX) (x : Exs) (es : List Expr) : Prop where
  pa : PA X es (tAs X G C fl W x)
  andv : es.isEmpty = false → ∀ pos, PE X (.BoolOp .And es pos) (tAndX X G C fl W x)
  orv : es.isEmpty = false → ∀ pos, PE X (.BoolOp .Or es pos) (tOrX X G C fl W x)
  andt : es.isEmpty = false → tsOks x = true → ∀ pos, PW X (.BoolOp .And es pos) (tAndT X G C fl W x)
  ort : es.isEmpty = false → tsOks x = true → ∀ pos, PW X (.BoolOp .Or es pos) (tOrT X G C fl W x)
  tests : es.length ≤ 1 → tsOks x = true → PTs X es (tTs X G C fl W x)
  plb : es.all plB = true
  len : ∀ ρ st ds st', evEs G (C fl) fl ρ x st = .ok ds st' → ds.length = es.length

section
variable {X : Cx} {G : Prog} {C : Nat → Nat → List D → Sto → Out D} {fl k : Nat} {W : WX} {N : List Str} {sc : Scope} {pos : Pos}
theorem FEx.mk1 {x : Ex} {e : Expr} (h : PE X e (tE X G C fl W x)) (hf : isF x = false) (ht : tsOk x = true → PT X e (tT X G C fl W x)) : FEx X G C fl W x e := ⟨h, (fun z => by rw [hf] at z; cases z), ht⟩
theorem FEx.mkF {x : Ex} {e : Expr} (h : PE X e (tF X G C fl W x)) (ht : tsOk x = true → PT X e (tT X G C fl W x)) : FEx X G C fl W x e := ⟨pe_of_F h, fun _ => h, ht⟩
theorem no_ts {x : Ex} {e : Expr} (h : tsOk x = false) : tsOk x = true → PT X e (tT X G C fl W x) := fun z => by rw [h] at z; cases z

theorem PW.im {e : Expr} {t t' : TT} (h : PW X e t) (f : ∀ σ H R, t' σ H R → t σ H R) : PW X e t' := ⟨fun wh pins s σ H R I q => h.run wh pins s σ H R I (f σ H R q)⟩
theorem FExs.nil : FExs X G C fl W .nil [] := ⟨a_nil, (fun h => by cases h), (fun h => by cases h), (fun h => by cases h), (fun h => by cases h), fun _ _ => tests_nil, rfl, (fun ρ st ds st' h => by unfold evEs at h; cases h; rfl)⟩
theorem FExs.cons {a : Ex} {r : Exs} {e : Expr} {es : List Expr} (ha : FEx X G C fl W a e) (hr : FExs X G C fl W r es) (hp : plB e = true) (hnil : es.isEmpty = true ↔ r = .nil) : FExs X G C fl W (.cons a r) (e :: es) where
  pa := a_cons ha.pe hr.pa hp
  andv := fun _ pos => by
    cases es with
    | nil =>
      have hr0 := hnil.mp rfl
      subst hr0
      refine (pe_one ha.pe).im fun σ H Q ⟨ρ, fls, st, m, S, q⟩ => ?_
      unfold evAnd at q
      exact ⟨ρ, fls, st, m, S, q⟩
    | cons e2 es2 =>
      refine (pe_and ha.pe (hr.andv rfl pos)).im fun σ H Q ⟨ρ, fls, st, m, S, q⟩ => ?_
      have hne : r ≠ .nil := fun z => by have := hnil.mpr z; cases this
      have q' : Post X.K X.mg G fls m H (WE W σ) ((evE G (C fl) fl ρ a st).bind fun x st => match x with | .bl true => evAnd G (C fl) fl ρ r st | .bl false => .ok (.bl false) st | _ => .bad) fun d st' => QV X.K X.mg G fls st' m H d Q := by
        cases r with
        | nil => exact absurd rfl hne
        | cons b r => unfold evAnd at q; exact q
      refine t1 S q' fun x st1 v m1 H1 e1 S1 r1 q1 => ?_
      cases r1 <;> first | exact q1.elim | skip
      rename_i b
      refine ⟨b, rfl, ?_⟩
      cases b with
      | true =>
        rw [if_pos rfl]
        exact ⟨ρ, fls, st1, m1, S1, Post.imp q1 fun d s h => QV.ext e1 h⟩
      | false =>
        rw [if_neg Bool.false_ne_true]
        exact QV.here (QV.ext e1 q1) S1.rel (.bl _)
  orv := fun _ pos => by
    cases es with
    | nil =>
      have hr0 := hnil.mp rfl
      subst hr0
      refine (pe_one ha.pe).im fun σ H Q ⟨ρ, fls, st, m, S, q⟩ => ?_
      unfold evOr at q
      exact ⟨ρ, fls, st, m, S, q⟩
    | cons e2 es2 =>
      refine (pe_or ha.pe (hr.orv rfl pos)).im fun σ H Q ⟨ρ, fls, st, m, S, q⟩ => ?_
      have hne : r ≠ .nil := fun z => by have := hnil.mpr z; cases this
      have q' : Post X.K X.mg G fls m H (WE W σ) ((evE G (C fl) fl ρ a st).bind fun x st => match x with | .bl true => .ok (.bl true) st | .bl false => evOr G (C fl) fl ρ r st | _ => .bad) fun d st' => QV X.K X.mg G fls st' m H d Q := by
        cases r with
        | nil => exact absurd rfl hne
        | cons b r => unfold evOr at q; exact q
      refine t1 S q' fun x st1 v m1 H1 e1 S1 r1 q1 => ?_
      cases r1 <;> first | exact q1.elim | skip
      rename_i b
      refine ⟨b, rfl, ?_⟩
      cases b with
      | true =>
        rw [if_pos rfl]
        exact QV.here (QV.ext e1 q1) S1.rel (.bl _)
      | false =>
        rw [if_neg Bool.false_ne_true]
        exact ⟨ρ, fls, st1, m1, S1, Post.imp q1 fun d s h => QV.ext e1 h⟩
  andt := fun _ ht pos => by
    have ht' : tsOk a = true ∧ tsOks r = true := by simpa [tsOks] using ht
    cases es with
    | nil =>
      have hr0 := hnil.mp rfl
      subst hr0
      refine PW.im (pw_and1 (ha.pt ht'.1)) fun σ H Q ⟨ρ, fls, st, m, S, q⟩ => ?_
      unfold evAnd at q
      exact ⟨ρ, fls, st, m, S, q⟩
    | cons e2 es2 =>
      refine PW.im (pw_and (ha.pt ht'.1) (hr.andt rfl ht'.2 pos)) fun σ H Q ⟨ρ, fls, st, m, S, q⟩ => ?_
      have hne : r ≠ .nil := fun z => by have := hnil.mpr z; cases this
      have q' : Post X.K X.mg G fls m H (WE W σ) ((evE G (C fl) fl ρ a st).bind fun x st => match x with | .bl true => evAnd G (C fl) fl ρ r st | .bl false => .ok (.bl false) st | _ => .bad) fun d st' => ∃ b, d = .bl b ∧ ∀ m' H', Ext m H m' H' → Rel X.K X.mg G fls st' m' H' → Q b H' := by
        cases r with
        | nil => exact absurd rfl hne
        | cons b r => unfold evAnd at q; exact q
      refine tT1 S q' (fun x st1 h => ?_) fun b st1 m1 H1 e1 S1 q1 => ?_
      · cases x <;> first | rfl | exact absurd rfl (h _)
      · cases b with
        | true =>
          rw [if_pos rfl]
          exact ⟨ρ, fls, st1, m1, S1, Post.imp q1 fun d s ⟨b, h1, h2⟩ => ⟨b, h1, fun m' H' e R => h2 m' H' (e1.trans e) R⟩⟩
        | false =>
          rw [if_neg Bool.false_ne_true]
          obtain ⟨b, h1, h2⟩ := q1
          cases h1
          exact h2 m1 H1 e1 S1.rel
  ort := fun _ ht pos => by
    have ht' : tsOk a = true ∧ tsOks r = true := by simpa [tsOks] using ht
    cases es with
    | nil =>
      have hr0 := hnil.mp rfl
      subst hr0
      refine PW.im (pw_or1 (ha.pt ht'.1)) fun σ H Q ⟨ρ, fls, st, m, S, q⟩ => ?_
      unfold evOr at q
      exact ⟨ρ, fls, st, m, S, q⟩
    | cons e2 es2 =>
      refine PW.im (pw_or (ha.pt ht'.1) (hr.ort rfl ht'.2 pos)) fun σ H Q ⟨ρ, fls, st, m, S, q⟩ => ?_
      have hne : r ≠ .nil := fun z => by have := hnil.mpr z; cases this
      have q' : Post X.K X.mg G fls m H (WE W σ) ((evE G (C fl) fl ρ a st).bind fun x st => match x with | .bl true => .ok (.bl true) st | .bl false => evOr G (C fl) fl ρ r st | _ => .bad) fun d st' => ∃ b, d = .bl b ∧ ∀ m' H', Ext m H m' H' → Rel X.K X.mg G fls st' m' H' → Q b H' := by
        cases r with
        | nil => exact absurd rfl hne
        | cons b r => unfold evOr at q; exact q
      refine tT1 S q' (fun x st1 h => ?_) fun b st1 m1 H1 e1 S1 q1 => ?_
      · cases x <;> first | rfl | exact absurd rfl (h _)
      · cases b with
        | true =>
          rw [if_pos rfl]
          obtain ⟨b, h1, h2⟩ := q1
          cases h1
          exact h2 m1 H1 e1 S1.rel
        | false =>
          rw [if_neg Bool.false_ne_true]
          exact ⟨ρ, fls, st1, m1, S1, Post.imp q1 fun d s ⟨b, h1, h2⟩ => ⟨b, h1, fun m' H' e R => h2 m' H' (e1.trans e) R⟩⟩
  tests := fun hl ht => by
    have ht' : tsOk a = true ∧ tsOks r = true := by simpa [tsOks] using ht
    cases es with
    | nil => exact tests_one (ha.pt ht'.1)
    | cons e2 es2 => simp at hl
  plb := by simp only [List.all_cons, hp, hr.plb, Bool.and_self]
  len := fun ρ st ds st' h => by
    unfold evEs at h
    cases e1 : evE G (C fl) fl ρ a st with
    | ok x st1 =>
      rw [e1, Out.bind_ok] at h
      cases e2 : evEs G (C fl) fl ρ r st1 with
      | ok xs st2 =>
        rw [e2, Out.bind_ok] at h
        cases h
        simp [hr.len ρ st1 xs _ e2]
      | exc c fs s => rw [e2] at h; cases h
      | bad => rw [e2] at h; cases h
    | exc c fs s => rw [e1] at h; cases h
    | bad => rw [e1] at h; cases h
end
end Ev

set_option Elab.async false
set_option linter.all false
set_option maxRecDepth 100000
set_option maxHeartbeats 8000000
/-! Ev, part 14: the induction over expressions. -/
namespace Ev
open PySem L2 PySem.Spec
open PyProof.Rows hiding St
section
variable {G : Prog} {C : Nat → Nat → List D → Sto → Out D} {fl k : Nat} {N : List Str}

theorem locB_ok {sc : Scope} {x : Str} (h : locB sc x = true) : sc.names.lookup x = some .local ∨ sc.names.lookup x = some .cell := by
  unfold locB at h
  split at h <;> first | exact .inl (by assumption) | exact .inr (by assumption) | cases h
theorem blk_loc {X : Cx} {scope : Scope} {x : Str} (s : Shared) (H : Hp) (c : Addr) (cl : List (Str × Addr)) (fp : List Addr) (h : locB scope x = true) :
    Loc (X.blk s H scope (compEnvC scope cl c X.env) fp).env.scope x ∧ ((X.blk s H scope (compEnvC scope cl c X.env) fp).fn x = true ∨ (X.blk s H scope (compEnvC scope cl c X.env) fp).env.scope.names.lookup x = some .local) := by
  rcases locB_ok h with e | e
  · have := lookup_relS_keep (sc := X.env.scope) (by decide) e
    exact ⟨.inl this, .inr this⟩
  · have := lookup_relS_keep (sc := X.env.scope) (by decide) e
    exact ⟨.inr this, .inl (by show (scope.names.lookup x == some NameKind.cell) = true; rw [e]; rfl)⟩
theorem empty_nil {N : List Str} {r : Exs} {sc : Scope} {es : List Expr} (h : emEs G N r sc es = true) : es.isEmpty = true ↔ r = .nil := by
  cases r with
  | nil =>
    unfold emEs at h
    cases es with
    | nil => simp
    | cons e es => simp at h
  | cons a r =>
    unfold emEs at h
    cases es with
    | nil => simp at h
    | cons e es => simp
theorem isE {es : List Expr} (h : (!es.isEmpty) = true) : es.isEmpty = false := by simpa using h
theorem ne_cons {es : List Expr} (h : (!es.isEmpty) = true) : ∃ e r, es = e :: r := by
  cases es with
  | nil => simp at h
  | cons e r => exact ⟨e, r, rfl⟩

mutual
theorem exE : ∀ (x : Ex) (sc : Scope) (e : Expr), emE G N x sc e = true → ∀ (X : Cx) (W : WX), XOk G C k W N sc X → FEx X G C fl W x e
  | .non, sc, e, h, X, W, ok => by
    unfold emE at h
    split at h
    · exact .mk1 (c_const pe_non (fun _ _ => by unfold evE; rfl) fun _ _ => .non) rfl (no_ts rfl)
    · cases h
  | .bool b, sc, e, h, X, W, ok => by
    unfold emE at h
    split at h
    · have := eq_of_beq h
      subst this
      exact .mk1 (c_const pe_bl (fun _ _ => by unfold evE; rfl) fun _ _ => .bl _) rfl (no_ts rfl)
    · cases h
  | .int i, sc, e, h, X, W, ok => by
    unfold emE at h
    split at h
    · have := of_decide_eq_true h
      subst this
      exact .mk1 (c_const pe_int (fun _ _ => by unfold evE; rfl) fun _ _ => .int _) rfl (no_ts rfl)
    · cases h
  | .str x, sc, e, h, X, W, ok => by
    unfold emE at h
    split at h
    · simp only [Bool.and_eq_true, decide_eq_true_eq] at h
      obtain ⟨rfl, h2⟩ := h
      exact .mk1 (c_const pe_str (fun _ _ => by unfold evE; rfl) fun _ _ => .str h2) rfl (no_ts rfl)
    · cases h
  | .var i, sc, e, h, X, W, ok => by
    unfold emE at h
    split at h
    · simp only [Bool.and_eq_true, decide_eq_true_eq] at h
      exact .mk1 (c_var ok h.1.1 h.1.2 h.2) rfl fun _ => p_val (c_var ok h.1.1 h.1.2 h.2) fun _ => rfl
    · cases h
  | .gf f, sc, e, h, X, W, ok => by
    unfold emE at h
    split at h
    · simp only [Bool.and_eq_true, decide_eq_true_eq, Option.map_eq_some_iff] at h
      obtain ⟨⟨⟨F, hF, rfl⟩, h2⟩, h3⟩ := h
      obtain ⟨a, fd, ps, h4, _⟩ := ok.fns f F hF
      exact .mk1 (c_const (pe_glob (gl_of ok h2) h4 (v := .ref a) rfl (name_dbg h3).1) (fun _ _ => by unfold evE; rfl) fun _ _ => .fn hF h4) rfl (no_ts rfl)
    · cases h
  | .gc c, sc, e, h, X, W, ok => by
    unfold emE at h
    split at h
    · simp only [Bool.and_eq_true, decide_eq_true_eq, Option.map_eq_some_iff] at h
      obtain ⟨⟨⟨p, hp, rfl⟩, h2⟩, h3⟩ := h
      obtain ⟨u, v, h4, h5, h6⟩ := ok.cons c p hp
      exact .mk1 (c_const (pe_glob (gl_of ok h2) h4 h5 (name_dbg h3).1) (fun _ _ => by unfold evE; rw [hp]) fun m H => h6 m H) rfl (no_ts rfl)
    · cases h
  | .tyE n, sc, e, h, X, W, ok => by
    unfold emE at h
    split at h
    · simp only [Bool.and_eq_true, List.any_eq_true, decide_eq_true_eq] at h
      obtain ⟨⟨t, ht, rfl, rfl⟩, h2⟩ := h
      have hb : bootBuiltins t.2 = some (.type t.1) := by
        simp only [tyNames, List.mem_cons, List.not_mem_nil, or_false] at ht
        rcases ht with rfl | rfl | rfl | rfl | rfl | rfl <;> decide +kernel
      have hn : t.2 ≠ "__name__" := by
        simp only [tyNames, List.mem_cons, List.not_mem_nil, or_false] at ht
        rcases ht with rfl | rfl | rfl | rfl | rfl | rfl <;> decide +kernel
      have hd : (t.2 == ("__debug__" : Str)) = false := by
        simp only [tyNames, List.mem_cons, List.not_mem_nil, or_false] at ht
        rcases ht with rfl | rfl | rfl | rfl | rfl | rfl <;> decide +kernel
      exact .mk1 (c_const (pe_bltn (v := .ty t.1) (gl_of ok h2) (ok.tys t ht) hb rfl hn hd) (fun _ _ => by unfold evE; rfl) fun _ _ => .ty _) rfl (no_ts rfl)
    · cases h
  | .bin op a b, sc, e, h, X, W, ok => by
    unfold emE at h
    split at h
    · simp only [Bool.and_eq_true, decide_eq_true_eq] at h
      obtain ⟨⟨rfl, h1⟩, h2⟩ := h
      exact .mkF (c_bin (exE a sc _ h1 X W ok).pe (exE b sc _ h2 X W ok).pe) (no_ts rfl)
    · cases h
  | .neg a, sc, e, h, X, W, ok => by
    unfold emE at h
    split at h
    · exact .mk1 (c_neg (exE a sc _ h X W ok).pe) rfl (no_ts rfl)
    · cases h
  | .nt a, sc, e, h, X, W, ok => by
    unfold emE at h
    split at h
    · exact .mk1 (c_not (exE a sc _ h X W ok).pe) rfl fun z => p_not ((exE a sc _ h X W ok).pt (by simpa [tsOk] using z))
    · cases h
  | .andE as, sc, e, h, X, W, ok => by
    unfold emE at h
    split at h
    · simp only [Bool.and_eq_true] at h
      have ih := exEs as sc _ h.1 X W ok
      exact .mk1 ((ih.andv (isE h.2) _).im fun σ H Q ⟨ρ, fls, st, m, S, q⟩ => ⟨ρ, fls, st, m, S, by unfold evE at q; exact q⟩) rfl
        fun z => (ih.andt (isE h.2) (by simpa [tsOk] using z) _).pt.im fun σ H Q ⟨ρ, fls, st, m, S, q⟩ => ⟨ρ, fls, st, m, S, by unfold evE at q; exact q⟩
    · cases h
  | .orE as, sc, e, h, X, W, ok => by
    unfold emE at h
    split at h
    · simp only [Bool.and_eq_true] at h
      have ih := exEs as sc _ h.1 X W ok
      exact .mk1 ((ih.orv (isE h.2) _).im fun σ H Q ⟨ρ, fls, st, m, S, q⟩ => ⟨ρ, fls, st, m, S, by unfold evE at q; exact q⟩) rfl
        fun z => (ih.ort (isE h.2) (by simpa [tsOk] using z) _).pt.im fun σ H Q ⟨ρ, fls, st, m, S, q⟩ => ⟨ρ, fls, st, m, S, by unfold evE at q; exact q⟩
    · cases h
  | .cmp op a b, sc, e, h, X, W, ok => by
    unfold emE at h
    split at h
    · simp only [Bool.and_eq_true, decide_eq_true_eq, beq_iff_eq] at h
      obtain ⟨⟨⟨⟨rfl, h1⟩, h2⟩, h3⟩, h4⟩ := h
      have ha := (exE a sc _ h1 X W ok).pe
      have hb := (exE b sc _ h2 X W ok).pe
      exact .mk1 (c_cmp ok ha hb h4) rfl fun _ => p_cmp ok ha hb h4
    · cases h
  | .chain op op2 a b c, sc, e, h, X, W, ok => by
    unfold emE at h
    split at h
    · simp only [Bool.and_eq_true, decide_eq_true_eq, beq_iff_eq] at h
      obtain ⟨⟨⟨⟨⟨rfl, rfl⟩, h1⟩, h2⟩, h3⟩, h4⟩ := h
      have ha := (exE a sc _ h1 X W ok).pe
      have hb := (exE b sc _ h2 X W ok).pe
      have hc := (exE c sc _ h3 X W ok).pe
      exact .mk1 (c_chain ok ha hb hc h4) rfl fun _ => p_chain ok ha hb hc h4
    · cases h
  | .isN a, sc, e, h, X, W, ok => by
    unfold emE at h
    split at h
    · have ha := (exE a sc _ h X W ok).pe
      exact .mk1 (c_isN ha) rfl fun _ => p_isN ha
    · cases h
  | .notN a, sc, e, h, X, W, ok => by
    unfold emE at h
    split at h
    · have ha := (exE a sc _ h X W ok).pe
      exact .mk1 (c_notN ha) rfl fun _ => p_notN ha
    · cases h
  | .isB a b, sc, e, h, X, W, ok => by
    unfold emE at h
    split at h
    · simp only [Bool.and_eq_true] at h
      have := eq_of_beq h.2
      subst this
      have ha := (exE a sc _ h.1 X W ok).pe
      exact .mk1 (c_isB ha) rfl fun _ => p_isB ha
    · cases h
  | .notB a b, sc, e, h, X, W, ok => by
    unfold emE at h
    split at h
    · simp only [Bool.and_eq_true] at h
      have := eq_of_beq h.2
      subst this
      have ha := (exE a sc _ h.1 X W ok).pe
      exact .mk1 (c_notB ha) rfl fun _ => p_notB ha
    · cases h
  | .call f as, sc, e, h, X, W, ok => by
    unfold emE at h
    split at h
    · simp only [Bool.and_eq_true, decide_eq_true_eq] at h
      obtain ⟨⟨⟨⟨⟨h1, h2⟩, h3⟩, h4⟩, h5⟩, h6⟩ := h
      obtain ⟨e0, es, rfl⟩ := ne_cons h5
      have ih := exEs as sc _ h4 X W ok
      have hl : ∀ F, G.fns[f]? = some F → ∀ ρ st ds st', evEs G (C fl) fl ρ as st = .ok ds st' → ds.length = F.np := fun F hF ρ st ds st' e => by
        rw [hF] at h6
        have := ih.len ρ st ds st' e
        simp at h6
        simp at this
        omega
      exact .mk1 (c_call ok ih.pa h1 (gl_of ok h2) h3 ih.plb hl) rfl fun _ => p_val (c_call ok ih.pa h1 (gl_of ok h2) h3 ih.plb hl) fun _ => rfl
    · cases h
  | .callv i as, sc, e, h, X, W, ok => by
    unfold emE at h
    split at h
    · simp only [Bool.and_eq_true, decide_eq_true_eq] at h
      obtain ⟨⟨⟨⟨h1, h2⟩, h3⟩, h4⟩, h5⟩ := h
      obtain ⟨e0, es, rfl⟩ := ne_cons h5
      have ih := exEs as sc _ h4 X W ok
      exact .mk1 (c_callv ok ih.pa h1 h2 h3 ih.plb) rfl fun _ => p_val (c_callv ok ih.pa h1 h2 h3 ih.plb) fun _ => rfl
    · cases h
  | .bi n as, sc, e, h, X, W, ok => by
    unfold emE at h
    split at h
    · simp only [Bool.and_eq_true, decide_eq_true_eq] at h
      obtain ⟨⟨⟨rfl, h2⟩, h4⟩, h5⟩ := h
      obtain ⟨e0, es, rfl⟩ := ne_cons h5
      have ih := exEs as sc _ h4 X W ok
      exact .mkF (c_bi ok ih.pa (gl_of ok h2) ih.plb) fun _ => p_val (pe_of_F (c_bi ok ih.pa (gl_of ok h2) ih.plb)) fun _ => rfl
    · cases h
  | .listR s, sc, e, h, X, W, ok => by
    unfold emE at h
    split at h
    · simp only [Bool.and_eq_true, decide_eq_true_eq] at h
      obtain ⟨⟨rfl, h2⟩, h3⟩ := h
      split at h3
      · rename_i a
        split at h3
        · simp only [Bool.and_eq_true, decide_eq_true_eq] at h3
          obtain ⟨⟨⟨rfl, h4⟩, h5⟩, h6⟩ := h3
          exact .mkF (c_list1 ok (exE a sc _ h5 X W ok).pe h6 (gl_of ok h4) (gl_of ok h2)) (no_ts rfl)
        · cases h3
      · rename_i a b
        split at h3
        · simp only [Bool.and_eq_true, decide_eq_true_eq] at h3
          obtain ⟨⟨⟨⟨⟨rfl, h4⟩, h5⟩, h6⟩, h7⟩, h8⟩ := h3
          exact .mkF (c_list2 ok (exE a sc _ h5 X W ok).pe (exE b sc _ h7 X W ok).pe h6 h8 (gl_of ok h4) (gl_of ok h2)) (no_ts rfl)
        · cases h3
      · cases h3
      · cases h3
      · cases h3
      · cases h3
    · cases h
  | .bm m o as, sc, e, h, X, W, ok => by
    unfold emE at h
    split at h
    · simp only [Bool.and_eq_true, decide_eq_true_eq] at h
      obtain ⟨⟨⟨⟨⟨⟨rfl, h1⟩, h2⟩, h3⟩, h4⟩, h5⟩, h6⟩ := h
      obtain ⟨e0, es, rfl⟩ := ne_cons h5
      have ho := (exE o sc _ h1 X W ok).pe
      have ih := exEs as sc _ h4 X W ok
      exact .mk1 (c_bm ho ih.pa h2 h3 ih.plb h6) rfl fun _ => p_val (c_bm ho ih.pa h2 h3 ih.plb h6) fun _ => rfl
    · cases h
  | .meth m o as, sc, e, h, X, W, ok => by unfold emE at h; cases h
  | .mk c as, sc, e, h, X, W, ok => by unfold emE at h; cases h
  | .attr o f, sc, e, h, X, W, ok => by unfold emE at h; cases h
  | .idx o i, sc, e, h, X, W, ok => by
    unfold emE at h
    split at h
    · simp only [Bool.and_eq_true] at h
      have ho := (exE o sc _ h.1.1 X W ok).pe
      have hi := (exE i sc _ h.1.2 X W ok).pe
      exact .mk1 (c_idx ok ho hi h.2) rfl fun _ => p_val (c_idx ok ho hi h.2) fun _ => rfl
    · cases h
  | .slc o lo hi, sc, e, h, X, W, ok => by
    unfold emE at h
    split at h
    · simp only [Bool.and_eq_true] at h
      exact .mkF (c_slc (exE o sc _ h.1.1 X W ok).pe (exO lo sc _ h.1.2 X W ok) (exO hi sc _ h.2 X W ok)) (no_ts rfl)
    · cases h
  | .tupE as, sc, e, h, X, W, ok => by
    unfold emE at h
    split at h
    · simp only [Bool.and_eq_true, decide_eq_true_eq] at h
      have ih := exEs as sc _ h.1 X W ok
      exact .mk1 (c_tup ih.pa fun ρ st ds st' e => by rw [ih.len ρ st ds st' e]; exact h.2) rfl (no_ts rfl)
    · cases h
  | .lstE as, sc, e, h, X, W, ok => by
    unfold emE at h
    split at h
    · simp only [Bool.and_eq_true, decide_eq_true_eq] at h
      have ih := exEs as sc _ h.1 X W ok
      exact .mkF (c_lst ih.pa fun ρ st ds st' e => by rw [ih.len ρ st ds st' e]; exact h.2) (no_ts rfl)
    · cases h
  | .dicE ps, sc, e, h, X, W, ok => by
    unfold emE at h
    split at h
    · rename_i ks vs p
      simp only [Bool.and_eq_true, decide_eq_true_eq] at h
      obtain ⟨trs, h1, h2, h3, h4, h5⟩ := exPs ps sc ks vs h.1.1 X W ok p
      exact .mkF (c_disp h1 h2 h3 h4 (fun z => by subst z; simp at h) h.1.2 h5) (no_ts rfl)
    · cases h
  | .dic0 t, sc, e, h, X, W, ok => by
    unfold emE at h
    split at h
    · exact .mkF c_dic0 (no_ts rfl)
    · cases h
  | .lc elt tg src test own, sc, e, h, X, W, ok => by
    unfold emE at h
    split at h
    · rename_i eelt etg eit eifs scope p
      simp only [Bool.and_eq_true, decide_eq_true_eq] at h
      obtain ⟨⟨⟨⟨⟨⟨⟨⟨⟨h1, h2⟩, h3⟩, h4⟩, h4b⟩, h4c⟩, h5⟩, h6⟩, h7⟩, h8⟩ := h
      have okB : BlkOk X.N X.env.scope scope (ownN N own) := by rw [ok.n, ok.sc]; exact blkOk_by h6
      refine .mkF (PE.im (pe_lc (own := ownN N own) (g := gT X.K tg) (tt := tTs X G C fl W0 test) (te := tE X G C fl W0 elt) ok.calm ok.nd (exI src sc _ h3 etg X W ok) okB (fun s H c cl fp => pgT h2 ok.n ok.nd ok.calm fun x hx => blk_loc s H c cl fp hx)
        (fun s H c cl fp => (exEs test _ _ h4 _ W0 (ok.blk s H scope cl c fp)).tests h5 h4b) (fun s H c cl fp => (exE elt _ _ h1 _ W0 (ok.blk s H scope cl c fp)).pe) (fold_pl h4c)) ?_) (no_ts rfl)
      rw [h8]
      exact lc_imp fun i hi => by simpa using List.all_eq_true.mp h7 i hi
    · cases h
  | .box a, sc, e, h, X, W, ok => by
    unfold emE at h
    simp only [Bool.and_eq_true] at h
    exact .mk1 (c_box ((exE a sc _ h.2 X W ok).pf h.1)) rfl (no_ts rfl)
  | .ite c a b, sc, e, h, X, W, ok => by unfold emE at h; cases h
  | .bits a, sc, e, h, X, W, ok => by
    unfold emE at h
    split at h
    · simp only [Bool.and_eq_true, decide_eq_true_eq] at h
      obtain ⟨⟨⟨rfl, h1⟩, h2⟩, h3⟩ := h
      exact .mk1 (c_bits (exE a sc _ h1 X W ok).pe h2 h3) rfl (no_ts rfl)
    · cases h
  | .dix c i, sc, e, h, X, W, ok => by
    unfold emE at h
    split at h
    · simp only [Bool.and_eq_true, decide_eq_true_eq, Option.map_eq_some_iff] at h
      obtain ⟨⟨⟨⟨⟨p, hp, h1⟩, h2⟩, h3⟩, h4⟩, h5⟩ := h
      exact .mk1 (c_dix ok hp h1 (gl_of ok h2) h3 (exE i sc _ h4 X W ok).pe h5) rfl (no_ts rfl)
    · cases h
  | .sset a, sc, e, h, X, W, ok => by
    unfold emE at h
    split at h
    · simp only [Bool.and_eq_true, decide_eq_true_eq] at h
      obtain ⟨⟨⟨⟨⟨rfl, rfl⟩, h1⟩, h2⟩, h3⟩, h4⟩ := h
      exact .mkF (c_sset ok (exE a sc _ h3 X W ok).pe (gl_of ok h1) (gl_of ok h2) h4) (no_ts rfl)
    · cases h
  | .orV a b, sc, e, h, X, W, ok => by
    unfold emE at h
    split at h
    · simp only [Bool.and_eq_true] at h
      exact .mk1 (c_orV (exE a sc _ h.1 X W ok).pe (exE b sc _ h.2 X W ok).pe) rfl (no_ts rfl)
    · cases h
  | .dc kx vx tg src test own, sc, e, h, X, W, ok => by
    unfold emE at h
    split at h
    · rename_i ek ev etg eit eifs scope p
      simp only [Bool.and_eq_true, decide_eq_true_eq] at h
      obtain ⟨⟨⟨⟨⟨⟨⟨⟨⟨⟨h1, h1b⟩, h2⟩, h3⟩, h4⟩, h4b⟩, h4c⟩, h5⟩, h6⟩, h7⟩, h8⟩ := h
      have okB : BlkOk X.N X.env.scope scope (ownN N own) := by rw [ok.n, ok.sc]; exact blkOk_by h6
      refine .mkF (PE.im (pe_dc (own := ownN N own) (g := gT X.K tg) (tt := tTs X G C fl W0 test) (tk := tE X G C fl W0 kx) (tv := tE X G C fl W0 vx) ok.calm ok.nd (exI src sc _ h3 etg X W ok) okB (fun s H c cl fp => pgT h2 ok.n ok.nd ok.calm fun x hx => blk_loc s H c cl fp hx)
        (fun s H c cl fp => (exEs test _ _ h4 _ W0 (ok.blk s H scope cl c fp)).tests h5 h4b) (fun s H c cl fp => (exE kx _ _ h1 _ W0 (ok.blk s H scope cl c fp)).pe) (fun s H c cl fp => (exE vx _ _ h1b _ W0 (ok.blk s H scope cl c fp)).pe) (fold_pl h4c)) ?_) (no_ts rfl)
      rw [h8]
      exact dc_imp fun i hi => by simpa using List.all_eq_true.mp h7 i hi
    · cases h
theorem exEs : ∀ (x : Exs) (sc : Scope) (es : List Expr), emEs G N x sc es = true → ∀ (X : Cx) (W : WX), XOk G C k W N sc X → FExs X G C fl W x es
  | .nil, sc, es, h, X, W, ok => by
    unfold emEs at h
    split at h
    · exact .nil
    · cases h
  | .cons a r, sc, es, h, X, W, ok => by
    unfold emEs at h
    split at h
    · simp only [Bool.and_eq_true] at h
      exact .cons (exE a sc _ h.1.1 X W ok) (exEs r sc _ h.2 X W ok) h.1.2 (empty_nil h.2)
    · cases h
theorem exPs : ∀ (x : Prs) (sc : Scope) (ks : List (Option Expr)) (vs : List Expr), emPs G N x sc ks vs = true → ∀ (X : Cx) (W : WX), XOk G C k W N sc X → ∀ pos, ∃ trs, PPs X pos ks vs trs ∧ (∀ σ H Q, tPs X G C fl W x σ H Q → tPairs trs σ H Q) ∧
    ks.all (·.isSome) = true ∧ ks.length = vs.length ∧ (∀ ρ st kds st', evPs G (C fl) fl ρ x st = .ok kds st' → kds.length = ks.length)
  | .nil, sc, ks, vs, h, X, W, ok, pos => by
    unfold emPs at h
    split at h
    · exact ⟨[], pps_nil, ps_nil, rfl, rfl, fun ρ st kds st' e => by unfold evPs at e; cases e; rfl⟩
    · cases h
  | .cons a b r, sc, ks, vs, h, X, W, ok, pos => by
    unfold emPs at h
    split at h
    · simp only [Bool.and_eq_true] at h
      obtain ⟨trs, h1, h2, h3, h4, h5⟩ := exPs r sc _ _ h.2 X W ok pos
      refine ⟨_, pps_cons (exE a sc _ h.1.1 X W ok).pe (exE b sc _ h.1.2 X W ok).pe h1, ps_cons h2, by simp only [List.all_cons, h3]; rfl, by simp [h4], fun ρ st kds st' e => ?_⟩
      unfold evPs at e
      cases ea : evE G (C fl) fl ρ a st with
      | exc c fs s => rw [ea] at e; cases e
      | bad => rw [ea] at e; cases e
      | ok x s =>
        rw [ea, Out.bind_ok] at e
        cases eb : evE G (C fl) fl ρ b s with
        | exc c fs s => rw [eb] at e; cases e
        | bad => rw [eb] at e; cases e
        | ok y s =>
          rw [eb, Out.bind_ok] at e
          split at e
          · cases er : evPs G (C fl) fl ρ r s with
            | exc c fs s => rw [er] at e; cases e
            | bad => rw [er] at e; cases e
            | ok z s =>
              rw [er, Out.bind_ok] at e
              cases e
              simp [h5 _ _ _ _ er]
          · cases e
    · cases h
theorem exO : ∀ (x : Exs) (sc : Scope) (e : Option Expr), emO G N x sc e = true → ∀ (X : Cx) (W : WX), XOk G C k W N sc X → PO X e (tPo X G C fl W x)
  | .nil, sc, e, h, X, W, ok => by
    unfold emO at h
    split at h
    · exact o_none
    · cases h
  | .cons a r, sc, e, h, X, W, ok => by
    unfold emO at h
    split at h
    · simp only [Bool.and_eq_true] at h
      cases r with
      | nil => exact o_some (exE a sc _ h.1 X W ok).pe
      | cons b r => simp at h
    · cases h
theorem exI : ∀ (x : Src) (sc : Scope) (e : Expr), emI G N x sc e = true → ∀ (tg : Expr) (X : Cx) (W : WX), XOk G C k W N sc X → PI X tg e (tI X G C fl W x)
  | .rng1 a, sc, e, h, tg, X, W, ok => by
    unfold emI at h
    split at h
    · simp only [Bool.and_eq_true, decide_eq_true_eq] at h
      obtain ⟨⟨⟨rfl, h2⟩, h3⟩, h4⟩ := h
      exact i_rng1 ok (exE a sc _ h3 X W ok).pe h4 (gl_of ok h2)
    · cases h
  | .rng2 a b, sc, e, h, tg, X, W, ok => by
    unfold emI at h
    split at h
    · simp only [Bool.and_eq_true, decide_eq_true_eq] at h
      obtain ⟨⟨⟨⟨⟨rfl, h2⟩, h3⟩, h4⟩, h5⟩, h6⟩ := h
      exact i_rng2 ok (exE a sc _ h3 X W ok).pe (exE b sc _ h5 X W ok).pe h4 h6 (gl_of ok h2)
    · cases h
  | .seq a, sc, e, h, tg, X, W, ok => by
    unfold emI at h
    simp only [Bool.and_eq_true] at h
    exact i_seq ok (exE a sc _ h.1 X W ok).pe
  | .cel a, sc, e, h, tg, X, W, ok => by
    unfold emI at h
    simp only [Bool.and_eq_true] at h
    exact i_cel ok (exE a sc _ h.1 X W ok).pe
  | .rng3 a b c, sc, e, h, tg, X, W, ok => by
    unfold emI at h
    split at h
    · simp only [Bool.and_eq_true, decide_eq_true_eq] at h
      obtain ⟨⟨⟨⟨⟨⟨⟨rfl, h2⟩, h3⟩, h4⟩, h5⟩, h6⟩, h7⟩, h8⟩ := h
      exact i_rng3 ok (exE a sc _ h3 X W ok).pe (exE b sc _ h5 X W ok).pe (exE c sc _ h7 X W ok).pe h4 h6 h8 (gl_of ok h2)
    · cases h
  | .rev a, sc, e, h, tg, X, W, ok => by
    unfold emI at h
    split at h
    · simp only [Bool.and_eq_true, decide_eq_true_eq] at h
      obtain ⟨⟨⟨rfl, h2⟩, h3⟩, h4⟩ := h
      exact i_rev ok (exE a sc _ h3 X W ok).pe h4 (gl_of ok h2)
    · cases h
end
end
end Ev

set_option Elab.async false
set_option linter.all false
set_option maxRecDepth 100000
set_option maxHeartbeats 4000000
/-! Ev, part 14b: what an except suite says. -/
namespace Ev
open PySem L2 PySem.Spec
open PyProof.Rows hiding St

section
variable (G : Prog) (N : List Str) (sc : Scope) (nm : Option Str)
def excB (c : Nat) (x : Str) : Bool := decide ((G.excs[c]?).map (·.1) = some x) && gloB sc x && nameB x
def emU : Su → Expr → Bool
  | .non, e => match e with
    | .Constant .none _ _ => true
    | _ => false
  | .bool b, e => match e with
    | .Constant (.bool c) _ _ => b == c
    | _ => false
  | .int i, e => match e with
    | .Constant (.int j) _ _ => decide (i = j)
    | _ => false
  | .str x, e => match e with
    | .Constant (.str y) _ _ => decide (x = y) && strB x
    | _ => false
  | .var i, e => match e with
    | .Name x _ => decide (N[i]? = some x) && visB sc x && nameB x
    | _ => false
  | .tup2 a b, e => match e with
    | .Tuple [ea, eb] _ _ => emU a ea && emU b eb && plB ea && plB eb
    | _ => false
  | .nt a, e => match e with
    | .UnaryOp .Not ea _ => emU a ea
    | _ => false
  | .andS a b, e => match e with
    | .BoolOp .And [ea, eb] _ => emU a ea && emU b eb
    | _ => false
  | .orS a b, e => match e with
    | .BoolOp .Or [ea, eb] _ => emU a ea && emU b eb
    | _ => false
  | .isE c, e => match e with
    | .Call (.Name f _) [.Name y _, .Name x _] [] _ => decide (f = "isinstance") && gloB sc f && decide (nm = some y) && visB sc y && nameB y && excB G sc c x
    | _ => false
/-- may stand as a test -/
def tsU : Su → Bool
  | .nt a => tsU a
  | .andS a b => tsU a && tsU b
  | .orS a b => tsU a && tsU b
  | .isE _ => true
  | _ => false
def emSh : Sh → List Stmt → Bool
  | .ret e, ss => match ss with
    | [.Return (some ev) _] => emU G N sc nm e ev
    | _ => false
  | .retN, ss => match ss with
    | [.Return none _] => true
    | _ => false
  | .ifR c a r, ss => match ss with
    | .If ec [.Return (some ea) _] [] _ :: rest => emU G N sc nm c ec && tsU c && emU G N sc nm a ea && emSh r rest
    | _ => false
end

/-- what a suite's context must bear -/
structure UOk (Y : Cx) (G : Prog) (N : List Str) (sc : Scope) (nm : Option Str) (i : Option Nat) (a : Addr) (c : Nat) : Prop where
  n : Y.N = N
  sc : Y.env.scope = sc
  isi : Y.mg "isinstance" = none
  exc : ExcF Y.K Y.mg G
  fn : ∀ x, Y.fn x = true
  slot : nm = i.bind fun j => N[j]?
  is : ∃ p A, G.excs[c]? = some p ∧ Y.mg p.1 = some (.ref A) ∧ CallR Y (.builtin "isinstance") (rIsE Y.K A a)
structure UStt (K : PySem.W.Frag) (mg : Str → Option Value) (G : Prog) (i : Option Nat) (a : Addr) (fls : List Nat) (st : Sto) (m : Mp) (H : Hp) (ρ : Env) (σ : St) : Prop where
  rel : Rel K mg G fls st m H
  env : EnvR K mg G m H ρ σ
  ex : ∀ j, i = some j → σ[j]? = some (some (.ref a))
section
variable (Y : Cx) (G : Prog) (i : Option Nat) (a : Addr) (c : Nat)
def tU (u : Su) : TE := fun σ H Q => ∃ ρ fls st m d, UStt Y.K Y.mg G i a fls st m H ρ σ ∧ evU G c ρ u = some d ∧ QV Y.K Y.mg G fls st m H d Q
def tUT (u : Su) : TT := fun σ H Q => ∃ ρ fls st m b, UStt Y.K Y.mg G i a fls st m H ρ σ ∧ evU G c ρ u = some (.bl b) ∧ ∀ m' H', Ext m H m' H' → Rel Y.K Y.mg G fls st m' H' → Q b H'
end
section
variable {Y : Cx} {G : Prog} {N : List Str} {sc : Scope} {nm : Option Str} {i : Option Nat} {a : Addr} {c : Nat}
theorem UStt.ext {fls : List Nat} {st : Sto} {m m1 : Mp} {H H1 : Hp} {ρ : Env} {σ : St} (S : UStt Y.K Y.mg G i a fls st m H ρ σ) (x : Ext m H m1 H1) (R : Rel Y.K Y.mg G fls st m1 H1) : UStt Y.K Y.mg G i a fls st m1 H1 ρ σ := ⟨R, S.env.ext x, S.ex⟩
theorem gl_u (ok : UOk Y G N sc nm i a c) {x : Str} (h : gloB sc x = true) : Gl Y x := by
  show Y.env.scope.names.lookup x = _
  rw [ok.sc]
  unfold gloB at h
  split at h
  · assumption
  · cases h
theorem vis_u (ok : UOk Y G N sc nm i a c) {x : Str} (h2 : visB sc x = true) : Vis Y.env.scope x := by
  rw [ok.sc]
  unfold visB at h2
  split at h2 <;> first | exact .inl (by assumption) | exact .inr (.inl (by assumption)) | exact .inr (.inr (by assumption)) | cases h2
theorem u_const {u : Su} {e : Expr} {d : D} {v : V} (he : PE Y e (tC v)) (ev : ∀ ρ, evU G c ρ u = some d) (r : ∀ m H, Rep Y.K Y.mg G m H d v) : PE Y e (tU Y G i a c u) :=
  he.im fun σ H Q ⟨ρ, fls, st, m, d', S, e, q⟩ => by
    rw [ev] at e
    cases e
    exact QV.here q S.rel (r m H)
theorem u_pe (ok : UOk Y G N sc nm i a c) : ∀ (u : Su) (e : Expr), emU G N sc nm u e = true → PE Y e (tU Y G i a c u) ∧ (tsU u = true → PT Y e (tUT Y G i a c u)) := by
  intro u
  induction u with
  | non =>
    intro e h
    unfold emU at h
    split at h
    · exact ⟨u_const pe_non (fun _ => rfl) fun _ _ => .non, fun z => by cases z⟩
    · cases h
  | bool b =>
    intro e h
    unfold emU at h
    split at h
    · rw [beq_iff_eq] at h
      subst h
      exact ⟨u_const pe_bl (fun _ => rfl) fun _ _ => .bl _, fun z => by cases z⟩
    · cases h
  | int j =>
    intro e h
    unfold emU at h
    split at h
    · rw [decide_eq_true_eq] at h
      subst h
      exact ⟨u_const pe_int (fun _ => rfl) fun _ _ => .int _, fun z => by cases z⟩
    · cases h
  | str x =>
    intro e h
    unfold emU at h
    split at h
    · simp only [Bool.and_eq_true, decide_eq_true_eq] at h
      obtain ⟨rfl, h2⟩ := h
      exact ⟨u_const pe_str (fun _ => rfl) fun _ _ => .str h2, fun z => by cases z⟩
    · cases h
  | var j =>
    intro e h
    unfold emU at h
    split at h
    · simp only [Bool.and_eq_true, decide_eq_true_eq] at h
      obtain ⟨⟨h1, h2⟩, h3⟩ := h
      have h3' := h3
      unfold nameB at h3'
      simp only [Bool.and_eq_true, beq_iff_eq] at h3'
      refine ⟨(pe_var (i := j) (by rw [ok.n]; exact h1) (vis_u ok h2) h3'.1.1 h3'.1.2).im fun σ H Q ⟨ρ, fls, st, m, d, S, e, q⟩ => ?_, fun z => by cases z⟩
      unfold evU at e
      split at e
      · rename_i d' e'
        cases e
        obtain ⟨v, hv, r⟩ := S.env.2 j _ e'
        exact ⟨v, hv, QV.here q S.rel r⟩
      · cases e
    · cases h
  | tup2 x y ihx ihy =>
    intro e h
    unfold emU at h
    split at h
    · simp only [Bool.and_eq_true] at h
      obtain ⟨⟨⟨h1, h2⟩, h3⟩, h4⟩ := h
      refine ⟨(pe_tup (pa_cons (ihx _ h1).1 (pa_cons (ihy _ h2).1 pa_nil (star_pl h4)) (star_pl h3))).im fun σ H Q ⟨ρ, fls, st, m, d, S, e, q⟩ => ?_, fun z => by cases z⟩
      unfold evU at e
      split at e
      · rename_i dx dy ex ey
        cases e
        refine ⟨ρ, fls, st, m, dx, S, ex, fun v m1 H1 x1 R1 r1 => ?_⟩
        refine ⟨ρ, fls, st, m1, dy, S.ext x1 R1, ey, fun v2 m2 H2 x2 R2 r2 => ?_⟩
        exact ⟨by show 2 ≤ sizeLine; decide, fun p hp => QV.tup (QV.ext (x1.trans x2) q) R2 (.cons (r1.ext x2) (.cons r2 .nil)) hp⟩
      · cases e
    · cases h
  | nt x ih =>
    intro e h
    unfold emU at h
    split at h
    · refine ⟨(pe_not (ih _ h).1).im fun σ H Q ⟨ρ, fls, st, m, d, S, e, q⟩ => ?_, fun z => (pt_not ((ih _ h).2 z)).im fun σ H Q ⟨ρ, fls, st, m, b, S, e, q⟩ => ?_⟩
      · unfold evU at e
        split at e
        · rename_i b eb
          cases e
          refine ⟨ρ, fls, st, m, _, S, eb, fun v m1 H1 x1 R1 r1 => ?_⟩
          cases r1
          exact ⟨_, rfl, QV.here (QV.ext x1 q) R1 (.bl _)⟩
        · cases e
      · unfold evU at e
        split at e
        · rename_i b' eb
          cases e
          exact ⟨ρ, fls, st, m, _, S, eb, q⟩
        · cases e
    · cases h
  | andS x y ihx ihy =>
    intro e h
    unfold emU at h
    split at h
    · simp only [Bool.and_eq_true] at h
      refine ⟨(pe_and (ihx _ h.1).1 (pe_one (ihy _ h.2).1)).im fun σ H Q ⟨ρ, fls, st, m, d, S, e, q⟩ => ?_, fun z => ?_⟩
      · unfold evU at e
        split at e
        · rename_i eb
          refine ⟨ρ, fls, st, m, _, S, eb, fun v m1 H1 x1 R1 r1 => ?_⟩
          cases r1
          exact ⟨_, rfl, by rw [if_pos rfl]; exact ⟨ρ, fls, st, m1, d, S.ext x1 R1, e, QV.ext x1 q⟩⟩
        · rename_i eb
          cases e
          refine ⟨ρ, fls, st, m, _, S, eb, fun v m1 H1 x1 R1 r1 => ?_⟩
          cases r1
          exact ⟨_, rfl, by rw [if_neg Bool.false_ne_true]; exact QV.here (QV.ext x1 q) R1 (.bl _)⟩
        · cases e
      · have z' : tsU x = true ∧ tsU y = true := by simpa [tsU] using z
        refine (PW.im (pw_and ((ihx _ h.1).2 z'.1) (pw_and1 ((ihy _ h.2).2 z'.2))) fun σ H Q ⟨ρ, fls, st, m, b, S, e, q⟩ => ?_).pt
        unfold evU at e
        split at e
        · rename_i eb
          exact ⟨ρ, fls, st, m, _, S, eb, fun m1 H1 x1 R1 => by show (if true = true then _ else _); rw [if_pos rfl]; exact ⟨ρ, fls, st, m1, _, S.ext x1 R1, e, fun m2 H2 x2 R2 => q m2 H2 (x1.trans x2) R2⟩⟩
        · rename_i eb
          cases e
          exact ⟨ρ, fls, st, m, _, S, eb, fun m1 H1 x1 R1 => by show (if false = true then _ else _); rw [if_neg Bool.false_ne_true]; exact q m1 H1 x1 R1⟩
        · cases e
    · cases h
  | orS x y ihx ihy =>
    intro e h
    unfold emU at h
    split at h
    · simp only [Bool.and_eq_true] at h
      refine ⟨(pe_or (ihx _ h.1).1 (pe_one (ihy _ h.2).1)).im fun σ H Q ⟨ρ, fls, st, m, d, S, e, q⟩ => ?_, fun z => ?_⟩
      · unfold evU at e
        split at e
        · rename_i eb
          cases e
          refine ⟨ρ, fls, st, m, _, S, eb, fun v m1 H1 x1 R1 r1 => ?_⟩
          cases r1
          exact ⟨_, rfl, by rw [if_pos rfl]; exact QV.here (QV.ext x1 q) R1 (.bl _)⟩
        · rename_i eb
          refine ⟨ρ, fls, st, m, _, S, eb, fun v m1 H1 x1 R1 r1 => ?_⟩
          cases r1
          exact ⟨_, rfl, by rw [if_neg Bool.false_ne_true]; exact ⟨ρ, fls, st, m1, d, S.ext x1 R1, e, QV.ext x1 q⟩⟩
        · cases e
      · have z' : tsU x = true ∧ tsU y = true := by simpa [tsU] using z
        refine (PW.im (pw_or ((ihx _ h.1).2 z'.1) (pw_or1 ((ihy _ h.2).2 z'.2))) fun σ H Q ⟨ρ, fls, st, m, b, S, e, q⟩ => ?_).pt
        unfold evU at e
        split at e
        · rename_i eb
          cases e
          exact ⟨ρ, fls, st, m, _, S, eb, fun m1 H1 x1 R1 => by show (if true = true then _ else _); rw [if_pos rfl]; exact q m1 H1 x1 R1⟩
        · rename_i eb
          exact ⟨ρ, fls, st, m, _, S, eb, fun m1 H1 x1 R1 => by show (if false = true then _ else _); rw [if_neg Bool.false_ne_true]; exact ⟨ρ, fls, st, m1, _, S.ext x1 R1, e, fun m2 H2 x2 R2 => q m2 H2 (x1.trans x2) R2⟩⟩
        · cases e
    · cases h
  | isE c' =>
    intro e h
    unfold emU at h
    split at h
    · rename_i f p1 y p2 x p3 pos
      simp only [Bool.and_eq_true, decide_eq_true_eq] at h
      obtain ⟨⟨⟨⟨⟨rfl, h1⟩, h2⟩, h3⟩, h4⟩, h5⟩ := h
      unfold excB at h5
      simp only [Bool.and_eq_true, decide_eq_true_eq, Option.map_eq_some_iff] at h5
      obtain ⟨⟨⟨p', hp', rfl⟩, h6⟩, h7⟩ := h5
      have h4' := h4
      unfold nameB at h4'
      simp only [Bool.and_eq_true, beq_iff_eq] at h4'
      have hs := ok.slot
      rw [h2] at hs
      obtain ⟨j, hj, hN⟩ : ∃ j, i = some j ∧ N[j]? = some y := by
        cases i with
        | none => cases hs
        | some j => exact ⟨j, rfl, hs.symm⟩
      obtain ⟨p, A, e1, e2, hc⟩ := ok.is
      obtain ⟨A', f1, f2, _⟩ := ok.exc.one c' p' hp'
      have f3 := (ok.exc.two c p c' p' A A' e1 hp' e2 f1).2
      have main : PE Y (.Call (.Name "isinstance" p1) [.Name y p2, .Name p'.1 p3] [] pos) (tU Y G i a c (.isE c')) := by
        refine (pe_callB hc (gl_u ok h1) ok.isi PyProof.Rows.boot_isinstance (pa_cons (pe_var (i := j) (by rw [ok.n]; exact hN) (vis_u ok h3) h4'.1.1 h4'.1.2) (pa_cons (pe_glob (gl_u ok h6) f1 (v := .ref A') rfl (name_dbg h7).1) pa_nil))).im fun σ H Q ⟨ρ, fls, st, m, d, S, e, q⟩ => ?_
        unfold evU at e
        cases e
        exact ⟨.ref a, S.ex j hj, .ref A', .ref A', _, rfl, fun u hu => hu, f3, QV.here q S.rel (.bl _)⟩
      refine ⟨main, fun _ => (pt_val main (fun _ => rfl)).im fun σ H Q ⟨ρ, fls, st, m, b, S, e, q⟩ => ?_⟩
      refine ⟨ρ, fls, st, m, _, S, e, fun v m1 H1 x1 R1 r1 => ?_⟩
      cases r1
      exact ⟨_, rfl, q m1 H1 x1 R1⟩
    · cases h
theorem _root_.L2.PS.im {X : Cx} {e : Stmt} {t t' : TS} (h : PS X e t) (f : ∀ B σ H, t' B σ H → t B σ H) : PS X e t' := ⟨fun pins s σ H B I q => h.run pins s σ H B I (f B σ H q)⟩
theorem _root_.L2.PSs.im {X : Cx} {e : List Stmt} {t t' : TS} (h : PSs X e t) (f : ∀ B σ H, t' B σ H → t B σ H) : PSs X e t' := ⟨fun pins s σ H B I q => h.run pins s σ H B I (f B σ H q)⟩
/-- what is wanted of a suite's outcome -/
def UPost (K : PySem.W.Frag) (mg : Str → Option Value) (G : Prog) (fls : List Nat) (m : Mp) (H : Hp) (o : OutS) (B : Ends) : Prop :=
  match o with
  | .ret d st => ∀ v m' H', Ext m H m' H' → Rel K mg G fls st m' H' → Rep K mg G m' H' d v → B.rt v H'
  | _ => False
def tShT (Y : Cx) (G : Prog) (i : Option Nat) (a : Addr) (c : Nat) (s : Sh) : TS := fun B σ H => ∃ ρ fls st m, UStt Y.K Y.mg G i a fls st m H ρ σ ∧ UPost Y.K Y.mg G fls m H (evSh G c ρ st s) B
theorem u_sh (ok : UOk Y G N sc nm i a c) : ∀ (s : Sh) (ss : List Stmt), emSh G N sc nm s ss = true → PSs Y ss (tShT Y G i a c s) := by
  intro s
  induction s with
  | ret e =>
    intro ss h
    unfold emSh at h
    split at h
    · refine pss_one ((ps_ret (u_pe ok e _ h).1).im fun B σ H ⟨ρ, fls, st, m, S, q⟩ => ?_)
      unfold evSh at q
      split at q
      · rename_i d ed
        exact ⟨ρ, fls, st, m, d, S, ed, fun v m1 H1 x1 R1 r1 => q v m1 H1 x1 R1 r1⟩
      · exact q.elim
    · cases h
  | retN =>
    intro ss h
    unfold emSh at h
    split at h
    · refine pss_one (ps_retN.im fun B σ H ⟨ρ, fls, st, m, S, q⟩ => ?_)
      unfold evSh at q
      exact q .non m H Ext.refl S.rel .non
    · cases h
  | ifR ce ae r ih =>
    intro ss h
    unfold emSh at h
    split at h
    · simp only [Bool.and_eq_true] at h
      rename_i ec ea pos1 pos2 rest
      obtain ⟨⟨⟨h1, h2⟩, h3⟩, h4⟩ := h
      have pa : PSs Y [.Return (some ea) pos1] (fun B σ H => ∃ ρ fls st m d, UStt Y.K Y.mg G i a fls st m H ρ σ ∧ evU G c ρ ae = some d ∧ ∀ v m' H', Ext m H m' H' → Rel Y.K Y.mg G fls st m' H' → Rep Y.K Y.mg G m' H' d v → B.rt v H') :=
        pss_one ((ps_ret (u_pe ok ae _ h3).1).im fun B σ H ⟨ρ, fls, st, m, d, S, ed, q⟩ => ⟨ρ, fls, st, m, d, S, ed, fun v m1 H1 x1 R1 r1 => q v m1 H1 x1 R1 r1⟩)
      refine (pss_cons (ps_if ((u_pe ok ce _ h1).2 h2) pa pss_nil) (ih _ h4)).im fun B σ H ⟨ρ, fls, st, m, S, q⟩ => ?_
      unfold evSh at q
      split at q
      · rename_i ec
        split at q
        · rename_i d ed
          refine ⟨ρ, fls, st, m, _, S, ec, fun m1 H1 x1 R1 => ?_⟩
          show (if true = true then _ else _)
          rw [if_pos rfl]
          exact ⟨ρ, fls, st, m1, d, S.ext x1 R1, ed, fun v m2 H2 x2 R2 r2 => q v m2 H2 (x1.trans x2) R2 r2⟩
        · exact q.elim
      · rename_i ec
        refine ⟨ρ, fls, st, m, _, S, ec, fun m1 H1 x1 R1 => ?_⟩
        show (if false = true then _ else _)
        rw [if_neg Bool.false_ne_true]
        refine ⟨ρ, fls, st, m1, S.ext x1 R1, ?_⟩
        revert q
        cases evSh G c ρ st r with
        | ret d st' => exact fun q v m2 H2 x2 R2 r2 => q v m2 H2 (x1.trans x2) R2 r2
        | _ => exact fun q => q
      · exact q.elim
    · cases h
end
end Ev

set_option Elab.async false
set_option linter.all false
set_option maxRecDepth 100000
set_option maxHeartbeats 8000000
/-! Ev, part 15: statements. -/
namespace Ev
open PySem L2 PySem.Spec
open PyProof.Rows hiding St

def cmpB : Expr → Bool
  | .ListComp _ _ _ _ => true
  | .SetComp _ _ _ _ => true
  | .DictComp _ _ _ _ _ => true
  | _ => false
def tupB : Expr → Bool
  | .Tuple _ _ _ => true
  | .List _ _ => true
  | _ => false
/-- a comprehension given to a local name on its line -/
def swpB (sc : Scope) (x : Str) (px : Pos) (e : Expr) : Bool := match e with
  | .ListComp _ [⟨_, _, _, 0⟩] scope p => lclB sc x && (px.line == p.line) && ((scope.names.any fun (n, k) => n == x && (k == .local || k == .cell)) == false)
  | .DictComp _ _ [⟨_, _, _, 0⟩] scope p => lclB sc x && (px.line == p.line) && ((scope.names.any fun (n, k) => n == x && (k == .local || k == .cell)) == false)
  | _ => false
/-- a comprehension given to a cell -/
def nswB (sc : Scope) (x : Str) (e : Expr) : Bool := match e with
  | .ListComp _ _ _ _ => (match sc.names.lookup x with
    | some .cell => true
    | _ => false)
  | .DictComp _ _ _ _ _ => (match sc.names.lookup x with
    | some .cell => true
    | _ => false)
  | _ => false
/-- the comprehension within a box -/
def unB : Ex → Ex
  | .box a => a
  | x => x
section
variable (G : Prog) (N : List Str) (sc : Scope)
/-- except clauses: one -/
def emHd (hs : Hds) (hds : List ExceptHandler) : Bool := match hs with
  | .cons c n s .nil => match hds with
    | [.ExceptHandler (some (.Name x _)) nn (s0 :: ss) _] => excB G sc c x && (match n, nn with
      | none, none => emSh G N sc none s (s0 :: ss)
      | some i, some y => decide (N[i]? = some y) && lclB sc y && emSh G N sc (some y) s (s0 :: ss)
      | _, _ => false)
    | _ => false
  | _ => false
mutual
def emS : Sm → Stmt → Bool
  | .set i e, s => match s with
    | .Assign [.Name x px] ev _ => decide (N[i]? = some x) && locB sc x && emE G N e sc ev && (!cmpB ev || swpB sc x px ev || nswB sc x ev)
    | _ => false
  | .sets is e, s => match s with
    | .Assign [.Tuple ts k p] ev _ => emTs N (locB sc) is ts && emE G N e sc ev && !cmpB ev && !tupB ev
    | _ => false
  | .put o i e, s => match s with
    | .Assign [.Subscript eo ei _] ev _ => emE G N o sc eo && emE G N i sc ei && emE G N e sc ev && !cmpB ev && plB ei
    | _ => false
  | .fld _ _ _, s => false
  | .expr e, s => match s with
    | .Expr ev _ => emE G N e sc ev && !cmpB ev
    | _ => false
  | .doc, s => match s with
    | .Expr (.Constant (.str _) _ _) _ => true
    | _ => false
  | .ret e, s => match s with
    | .Return (some ev) _ => emE G N e sc ev
    | _ => false
  | .retN, s => match s with
    | .Return none _ => true
    | _ => false
  | .ifS c a b, s => match s with
    | .If ec sa sb _ => emE G N c sc ec && tsOk c && emSs a sa && emSs b sb
    | _ => false
  | .forS tg src b, s => match s with
    | .For et ei sb [] _ => emTg N (locB sc) tg et && emI G N src sc ei && emSs b sb && plB ei
    | _ => false
  | .whl c b, s => match s with
    | .While ec sb [] _ => emE G N c sc ec && tsOk c && emSs b sb
    | _ => false
  | .brk, s => match s with
    | .Break _ => true
    | _ => false
  | .cont, s => match s with
    | .Continue _ => true
    | _ => false
  | .raise c _, s => match s with
    | .Raise (some (.Call (.Name x _) [.Constant (.str _) _ _] [] _)) none _ => excB G sc c x
    | _ => false
  | .raiseI _ _, s => false
  | .tryS b hs, s => match s with
    | .Try sb hds [] [] _ => emSs b sb && emHd G N sc hs hds
    | _ => false
def emSs : Sms → List Stmt → Bool
  | .nil, ss => match ss with
    | [] => true
    | _ => false
  | .cons a r, ss => match ss with
    | s :: ss => emS a s && emSs r ss
    | _ => false
end
end

/-- the outcome of a statement, as what is wanted -/
def SPost (K : PySem.W.Frag) (mg : Str → Option Value) (G : Prog) (fls : List Nat) (m : Mp) (H : Hp) (W : WX) (o : OutS) (B : Ends) : Prop :=
  match o with
  | .next ρ st => ∀ σ m' H', Ext m H m' H' → Rel K mg G fls st m' H' → EnvR K mg G m' H' ρ σ → B.nx σ H'
  | .brk ρ st => ∀ σ m' H', Ext m H m' H' → Rel K mg G fls st m' H' → EnvR K mg G m' H' ρ σ → B.bk σ H'
  | .cont ρ st => ∀ σ m' H', Ext m H m' H' → Rel K mg G fls st m' H' → EnvR K mg G m' H' ρ σ → B.ct σ H'
  | .ret d st => ∀ v m' H', Ext m H m' H' → Rel K mg G fls st m' H' → Rep K mg G m' H' d v → B.rt v H'
  | .exc c fs ρ st => ∀ cls dd σ m' H', Ext m H m' H' → Rel K mg G fls st m' H' → EnvR K mg G m' H' ρ σ → ErrR G mg c fs cls dd → W cls dd σ H'
  | .bad => False
section
variable {K : PySem.W.Frag} {mg : Str → Option Value} {G : Prog} {fls : List Nat} {m m1 : Mp} {H H1 : Hp} {W : WX} {B B' : Ends}
theorem SPost.ext {o : OutS} (x : Ext m H m1 H1) (h : SPost K mg G fls m H W o B) : SPost K mg G fls m1 H1 W o B := by
  cases o with
  | next ρ st => exact fun σ m' H' e R E => h σ m' H' (x.trans e) R E
  | brk ρ st => exact fun σ m' H' e R E => h σ m' H' (x.trans e) R E
  | cont ρ st => exact fun σ m' H' e R E => h σ m' H' (x.trans e) R E
  | ret d st => exact fun σ m' H' e R E => h σ m' H' (x.trans e) R E
  | exc c fs ρ st => exact fun cls dd σ m' H' e R E r => h cls dd σ m' H' (x.trans e) R E r
  | bad => exact h
end
section
variable (X : Cx) (G : Prog) (C : Nat → Nat → List D → Sto → Out D) (fl : Nat) (W : WX)
def tS (x : Sm) : TS := fun B σ H => ∃ ρ fls st m, Stt X.K X.mg G fl fls st m H ρ σ ∧ SPost X.K X.mg G fls m H W (evS G (C fl) fl x ρ st) B
def tSs (x : Sms) : TS := fun B σ H => ∃ ρ fls st m, Stt X.K X.mg G fl fls st m H ρ σ ∧ SPost X.K X.mg G fls m H W (evSs G (C fl) fl x ρ st) B
end

/-- what a statement's context must bear besides -/
structure SOk (X : Cx) : Prop where
  fn : ∀ x, X.fn x = true
  stk : X.stack = X.env :: X.outer
  frm : X.env.frame = some X.env.locals
  pass : PassesOwn (model X.prog X.w) X.A X.env X.xe

section
variable {X : Cx} {G : Prog} {C : Nat → Nat → List D → Sto → Out D} {fl k : Nat} {W : WX} {N : List Str} {sc : Scope} {pos : Pos}
variable {fls : List Nat} {st : Sto} {m : Mp} {H : Hp} {ρ : Env} {σ : St} {B : Ends}
/-- an expression, then the rest -/
theorem s1 {a : Ex} {f : D → Sto → OutS} {P : V → Hp → Prop} (S : Stt X.K X.mg G fl fls st m H ρ σ)
    (h : SPost X.K X.mg G fls m H W ((evE G (C fl) fl ρ a st).thenS ρ f) B)
    (k : ∀ x st1 v m1 H1, Ext m H m1 H1 → Stt X.K X.mg G fl fls st1 m1 H1 ρ σ → Rep X.K X.mg G m1 H1 x v → SPost X.K X.mg G fls m1 H1 W (f x st1) B → P v H1) : tE X G C fl W a σ H P := by
  refine ⟨ρ, fls, st, m, S, ?_⟩
  cases e : evE G (C fl) fl ρ a st with
  | ok x st1 =>
    rw [e] at h
    exact fun v m1 H1 e1 R1 r1 => k x st1 v m1 H1 e1 (S.ext e1 R1) r1 (SPost.ext e1 h)
  | exc c fs s1 =>
    rw [e] at h
    exact fun cls dd m' H' e1 R r => h cls dd σ m' H' e1 R (S.env.ext e1) r
  | bad =>
    rw [e] at h
    exact h
theorem sT1 {a : Ex} {f : D → Sto → OutS} {P : Bool → Hp → Prop} (S : Stt X.K X.mg G fl fls st m H ρ σ)
    (h : SPost X.K X.mg G fls m H W ((evE G (C fl) fl ρ a st).thenS ρ f) B) (hb : ∀ x st1, (∀ b, x ≠ .bl b) → f x st1 = .bad)
    (k : ∀ b st1 m1 H1, Ext m H m1 H1 → Stt X.K X.mg G fl fls st1 m1 H1 ρ σ → SPost X.K X.mg G fls m1 H1 W (f (.bl b) st1) B → P b H1) : tT X G C fl W a σ H P := by
  refine ⟨ρ, fls, st, m, S, ?_⟩
  cases e : evE G (C fl) fl ρ a st with
  | ok x st1 =>
    rw [e] at h
    by_cases hx : ∃ b, x = .bl b
    · obtain ⟨b, rfl⟩ := hx
      exact ⟨b, rfl, fun m1 H1 e1 R1 => k b st1 m1 H1 e1 (S.ext e1 R1) (SPost.ext e1 h)⟩
    · have h' : SPost X.K X.mg G fls m H W (f x st1) B := h
      rw [hb x st1 fun b e => hx ⟨b, e⟩] at h'
      exact h'.elim
  | exc c fs s1 =>
    rw [e] at h
    exact fun cls dd m' H' e1 R r => h cls dd σ m' H' e1 R (S.env.ext e1) r
  | bad =>
    rw [e] at h
    exact h
theorem noswap {e : Expr} {t : Option Expr} {l : Nat} {env : PySem.Env} (h : cmpB e = false) : swapsWith e t l env = pure false := by
  cases e <;> first | rfl | (simp [cmpB] at h)
theorem loc_ok (ok : XOk G C k W N sc X) {x : Str} (h : locB sc x = true) : Loc X.env.scope x := by
  rw [ok.sc]; exact locB_ok h

theorem q_ret {e : Ex} {ev : Expr} (he : PE X ev (tE X G C fl W e)) : PS X (.Return (some ev) pos) (tS X G C fl W (.ret e)) :=
  (ps_ret he).im fun B σ H ⟨ρ, fls, st, m, S, q⟩ => by
    unfold evS at q
    exact s1 S q fun x st1 v m1 H1 e1 S1 r1 q1 => q1 v m1 H1 Ext.refl S1.rel r1
theorem q_retN : PS X (.Return none pos) (tS X G C fl W .retN) :=
  ps_retN.im fun B σ H ⟨ρ, fls, st, m, S, q⟩ => by
    unfold evS at q
    exact q .non m H Ext.refl S.rel .non
theorem q_raise {c : Nat} {mm : Str} {x t : Str} {j : Nat} {p p2 p3 : Pos} (ok : XOk G C k W N sc X) (h : excB G sc c x = true) : PS X (.Raise (some (.Call (.Name x p) [.Constant (.str t) j p2] [] p3)) none pos) (tS X G C fl W (.raise c mm)) := by
  unfold excB at h
  simp only [Bool.and_eq_true, decide_eq_true_eq, Option.map_eq_some_iff] at h
  obtain ⟨⟨⟨p', hp, rfl⟩, h6⟩, h7⟩ := h
  obtain ⟨A, f1, f2, f3, f4, f5, _⟩ := ok.exc.one c p' hp
  refine (L2.ps_raise ok.calm ok.tk (L2.pmk_own PySem.F.excBase_ValueError f3 f1 f2 (L2.raises_own f4 f5) (gl_of ok h6) (name_dbg h7).1)).im fun B σ H ⟨ρ, fls, st, m, S, q⟩ => ?_
  unfold evS at q
  exact q (.ref A) none σ m H Ext.refl S.rel S.env ⟨p', A, hp, f1, rfl, rfl, rfl⟩
theorem evSh_ret {c : Nat} {ρ : Env} {st : Sto} : ∀ s : Sh, (∃ d, evSh G c ρ st s = .ret d st) ∨ evSh G c ρ st s = .bad := by
  intro s
  induction s with
  | ret e =>
    unfold evSh
    split
    · exact .inl ⟨_, rfl⟩
    · exact .inr rfl
  | retN => exact .inl ⟨_, rfl⟩
  | ifR e a r ih =>
    unfold evSh
    split
    · split
      · exact .inl ⟨_, rfl⟩
      · exact .inr rfl
    · exact ih
    · exact .inr rfl
theorem upost {c : Nat} {s : Sh} {ρ' : Env} {st' : Sto} {m1 : Mp} {H1 : Hp} (x : Ext m H m1 H1) (q : SPost X.K X.mg G fls m H W (evSh G c ρ' st' s) B) : UPost X.K X.mg G fls m1 H1 (evSh G c ρ' st' s) B := by
  rcases evSh_ret (G := G) (c := c) (ρ := ρ') (st := st') s with ⟨d, e⟩ | e
  · rw [e] at q ⊢
    exact fun v m2 H2 x2 R2 r2 => q v m2 H2 (x.trans x2) R2 r2
  · rw [e] at q
    exact q.elim
theorem uok_of {a : Addr} {oe : Obj} {pn : List (Addr × Obj)} {c : Nat} {p : Str × Bool × List Nat} {A : Addr} {nm : Option Str} {i : Option Nat} (ok : XOk G C k W N sc X) (so : SOk X) (hz : L2.Zc (.ref A) none oe) (hv : ∃ vs, oe.data = .fields vs) (e1 : G.excs[c]? = some p) (e2 : X.mg p.1 = some (.ref A)) (hs : nm = i.bind fun j => N[j]?) :
    UOk (X.suite a ((a, oe) :: pn)) G N sc nm i a c := by
  obtain ⟨A', f1, f2, f3, f4, f5, f6⟩ := ok.exc.one c p e1
  rw [e2] at f1
  cases f1
  exact ⟨ok.n, ok.sc, ok.blt .isinst, ok.exc, so.fn, hs, p, A, e1, e2, call_isE f6 hz hv⟩
/-- what the clause does with the error -/
def tsH (X : Cx) (G : Prog) (i : Option Nat) (s : Sh) : Addr → Value → Option Addr → TS := fun a cls d B σ H => ∃ c fs, ErrR G X.mg c fs cls d ∧ tShT X G i a c s B σ H
theorem suite_ok {i : Option Nat} {nm : Option Str} {s : Sh} {ss : List Stmt} (ok : XOk G C k W N sc X) (so : SOk X) (hs : nm = i.bind fun j => N[j]?) (h : emSh G N sc nm s ss = true) :
    ∀ (a : Addr) (oe : Obj) (cls : Value) (d : Option Addr) (pn : List (Addr × Obj)), L2.Zc cls d oe → (∃ vs, oe.data = .fields vs) → PSs (X.suite a ((a, oe) :: pn)) ss (tsH X G i s a cls d) := by
  intro a oe cls d pn hz hv
  refine ⟨fun pins s0 σ H D I h0 => ?_⟩
  obtain ⟨c, fs, ⟨p, A, e1, e2, rfl, _, rfl⟩, h1⟩ := h0
  exact (u_sh (uok_of ok so hz hv e1 e2 hs) s ss h).run pins s0 σ H D I h1
theorem XOk.tr (ok : XOk G C k W N sc X) {W' : WX} {pn : List (Addr × Obj)} {xe : Value → Shared → Prop} (tk : Takes (X.tr pn xe) W') : XOk G C k W' N sc (X.tr pn xe) where
  n := ok.n
  nd := ok.nd
  sc := ok.sc
  calm := ok.calm
  room := ok.room
  tk := tk
  blt := ok.blt
  rng := ok.rng
  rev := ok.rev
  tys := ok.tys
  exc := ok.exc
  fns := ok.fns
  cons := ok.cons
  dics := ok.dics
theorem names_of (ok : XOk G C k W N sc X) {c : Nat} {x : Str} (h : excB G sc c x = true) : ∃ p A, G.excs[c]? = some p ∧ p.1 = x ∧ X.mg x = some (.ref A) ∧ L2.Names X x (.ref A) := by
  unfold excB at h
  simp only [Bool.and_eq_true, decide_eq_true_eq, Option.map_eq_some_iff] at h
  obtain ⟨⟨⟨p', hp, rfl⟩, h6⟩, h7⟩ := h
  obtain ⟨A, f1, _⟩ := ok.exc.one c p' hp
  exact ⟨p', A, hp, rfl, f1, gl_of ok h6, (name_dbg h7).1, .inl f1⟩
theorem q_try0 {b : Sms} {s : Sh} {c : Nat} {x : Str} {sb : List Stmt} {s0 : Stmt} {ss : List Stmt} {np pos' : Pos} (ok : XOk G C k W N sc X) (so : SOk X) (hx : excB G sc c x = true) (hs : emSh G N sc none s (s0 :: ss) = true)
    (hb : ∀ (X' : Cx) (W' : WX), XOk G C k W' N sc X' → SOk X' → PSs X' sb (tSs X' G C fl W' b)) :
    PS X (.Try sb [.ExceptHandler (some (.Name x np)) none (s0 :: ss) pos'] [] [] pos) (tS X G C fl W (.tryS b (.cons c none s .nil))) := by
  obtain ⟨p, A, e1, rfl, e2, hn⟩ := names_of ok hx
  refine (L2.ps_try_only (tb := fun W' => tSs X G C fl W' b) so.stk so.frm hn ok.tk (fun W' pn xe tk ps => hb (X.tr pn xe) W' (ok.tr tk) ⟨so.fn, so.stk, so.frm, ps⟩) (suite_ok (i := none) (nm := none) ok so rfl hs)).im fun B σ H ⟨ρ, fls, st, m, S, q⟩ => ?_
  unfold evS at q
  refine ⟨ρ, fls, st, m, S, ?_⟩
  cases e : evSs G (C fl) fl b ρ st with
  | next ρ' st' => rw [e] at q; exact q
  | brk ρ' st' => rw [e] at q; exact q
  | cont ρ' st' => rw [e] at q; exact q
  | ret d st' => rw [e] at q; exact q
  | bad => rw [e] at q; exact q
  | exc c1 fs ρ' st' =>
    rw [e] at q
    intro cls dd σ' m' H' x1 R1 E1 er
    obtain ⟨p1, A1, g1, g2, rfl, rfl, rfl⟩ := id er
    have two := (ok.exc.two c1 p1 c p A1 A g1 e1 g2 e2).1
    refine ⟨subB G c1 c, two, fun hb1 a ha => ?_, fun hb0 => ?_⟩
    · unfold evH at q
      dsimp only at q
      rw [if_pos hb1] at q
      exact ⟨c1, [], er, ρ', fls, st', m', ⟨R1, E1, fun j hj => by cases hj⟩, upost x1 q⟩
    · unfold evH at q
      dsimp only at q
      rw [if_neg (by rw [hb0]; exact Bool.false_ne_true)] at q
      unfold evH at q
      exact q (.ref A1) none σ' m' H' x1 R1 E1 er
theorem EnvR.gone {K : PySem.W.Frag} {mg : Str → Option Value} {m : Mp} {H : Hp} {ρ : Env} {σ : St} (E : EnvR K mg G m H ρ σ) (i : Nat) (v : Option V) : EnvR K mg G m H (ρ.set i none) (σ.set i v) := by
  refine ⟨by simp [E.1], fun j d e => ?_⟩
  rw [List.getElem?_set] at e
  split at e
  · split at e <;> cases e
  · rename_i hne
    obtain ⟨u, h1, h2⟩ := E.2 j d e
    exact ⟨u, by rw [List.getElem?_set_ne hne]; exact h1, h2⟩
theorem q_try1 {b : Sms} {s : Sh} {c i : Nat} {x n : Str} {sb : List Stmt} {s0 : Stmt} {ss : List Stmt} {np pos' : Pos} (ok : XOk G C k W N sc X) (so : SOk X) (hx : excB G sc c x = true) (hi : N[i]? = some n) (hl : lclB sc n = true) (hs : emSh G N sc (some n) s (s0 :: ss) = true)
    (hb : ∀ (X' : Cx) (W' : WX), XOk G C k W' N sc X' → SOk X' → PSs X' sb (tSs X' G C fl W' b)) :
    PS X (.Try sb [.ExceptHandler (some (.Name x np)) (some n) (s0 :: ss) pos'] [] [] pos) (tS X G C fl W (.tryS b (.cons c (some i) s .nil))) := by
  obtain ⟨p, A, e1, rfl, e2, hn⟩ := names_of ok hx
  have hk : X.env.kindOf n = some .local := by
    show X.env.scope.names.lookup n = _
    rw [ok.sc]
    unfold lclB at hl
    split at hl
    · assumption
    · cases hl
  refine (L2.ps_try_as (i := i) (tb := fun W' => tSs X G C fl W' b) so.stk so.frm ok.nd (by rw [ok.n]; exact hi) hk hn ok.tk (fun W' pn xe tk ps => hb (X.tr pn xe) W' (ok.tr tk) ⟨so.fn, so.stk, so.frm, ps⟩) (suite_ok (i := some i) (nm := some n) ok so hi.symm hs)).im fun B σ H ⟨ρ, fls, st, m, S, q⟩ => ?_
  unfold evS at q
  refine ⟨ρ, fls, st, m, S, ?_⟩
  cases e : evSs G (C fl) fl b ρ st with
  | next ρ' st' => rw [e] at q; exact q
  | brk ρ' st' => rw [e] at q; exact q
  | cont ρ' st' => rw [e] at q; exact q
  | ret d st' => rw [e] at q; exact q
  | bad => rw [e] at q; exact q
  | exc c1 fs ρ' st' =>
    rw [e] at q
    intro cls dd σ' m' H' x1 R1 E1 er
    obtain ⟨p1, A1, g1, g2, rfl, rfl, rfl⟩ := id er
    have two := (ok.exc.two c1 p1 c p A1 A g1 e1 g2 e2).1
    refine ⟨subB G c1 c, two, fun hb1 a ha => ?_, fun hb0 => ?_⟩
    · unfold evH at q
      dsimp only at q
      rw [if_pos hb1] at q
      split at q
      · rename_i hlt
        refine ⟨c1, [], er, ρ'.set i none, fls, st', m', ⟨R1, E1.gone i _, fun j hj => ?_⟩, ?_⟩
        · cases hj
          rw [List.getElem?_set_self (by rw [← E1.1]; exact hlt)]
        · have u := upost (B := B) x1 q
          revert u
          cases evSh G c1 (ρ'.set i none) st' s with
          | ret d st2 => exact fun u => u
          | _ => exact fun u => u
      · exact q.elim
    · unfold evH at q
      dsimp only at q
      rw [if_neg (by rw [hb0]; exact Bool.false_ne_true)] at q
      unfold evH at q
      exact q (.ref A1) none σ' m' H' x1 R1 E1 er
theorem q_expr {e : Ex} {ev : Expr} (he : PE X ev (tE X G C fl W e)) (hc : cmpB ev = false) : PS X (.Expr ev pos) (tS X G C fl W (.expr e)) :=
  (ps_expr he (noswap hc)).im fun B σ H ⟨ρ, fls, st, m, S, q⟩ => by
    unfold evS at q
    exact s1 S q fun x st1 v m1 H1 e1 S1 r1 q1 => q1 σ m1 H1 Ext.refl S1.rel S1.env
theorem q_doc {x j p} : PS X (.Expr (.Constant (.str x) j p) pos) (tS X G C fl W .doc) :=
  ps_doc.im fun B σ H ⟨ρ, fls, st, m, S, q⟩ => by
    unfold evS at q
    exact q σ m H Ext.refl S.rel S.env
theorem q_brk : PS X (.Break pos) (tS X G C fl W .brk) :=
  ps_break.im fun B σ H ⟨ρ, fls, st, m, S, q⟩ => by
    unfold evS at q
    exact q σ m H Ext.refl S.rel S.env
theorem q_cont : PS X (.Continue pos) (tS X G C fl W .cont) :=
  ps_continue.im fun B σ H ⟨ρ, fls, st, m, S, q⟩ => by
    unfold evS at q
    exact q σ m H Ext.refl S.rel S.env
theorem q_set {i : Nat} {x : Str} {e : Ex} {ev : Expr} {px : Pos} (ok : XOk G C k W N sc X) (so : SOk X) (h1 : N[i]? = some x) (h2 : locB sc x = true) (he : PE X ev (tE X G C fl W e)) (hc : cmpB ev = false) :
    PS X (.Assign [.Name x px] ev pos) (tS X G C fl W (.set i e)) :=
  (ps_set (i := i) ok.nd (by rw [ok.n]; exact h1) (loc_ok ok h2) he (noswap hc) (.inl (so.fn x))).im fun B σ H ⟨ρ, fls, st, m, S, q⟩ => by
    unfold evS at q
    exact s1 S q fun x st1 v m1 H1 e1 S1 r1 q1 => q1 _ m1 H1 Ext.refl S1.rel (S1.env.set r1 i)
theorem q_set2 {i : Nat} {x : Str} {e : Ex} {ev : Expr} {px : Pos} (ok : XOk G C k W N sc X) (so : SOk X) (h1 : N[i]? = some x) (h2 : locB sc x = true) (he : PE X ev (tE X G C fl W e)) (hc : nswB sc x ev = true) :
    PS X (.Assign [.Name x px] ev pos) (tS X G C fl W (.set i e)) := by
  have hsw : swapsWith ev (some (.Name x px)) pos.line X.env = pure false := by
    unfold nswB at hc
    split at hc
    · split at hc
      · rename_i hk
        have hk2 : X.env.kindOf x = some .cell := by
          show X.env.scope.names.lookup x = _
          rw [ok.sc]; exact hk
        unfold swapsWith
        simp only [hk2]
        have : ((some NameKind.cell == some NameKind.local) : Bool) = false := rfl
        simp only [this, Bool.and_false, Bool.false_and]
      · cases hc
    · split at hc
      · rename_i hk
        have hk2 : X.env.kindOf x = some .cell := by
          show X.env.scope.names.lookup x = _
          rw [ok.sc]; exact hk
        unfold swapsWith
        simp only [hk2]
        have : ((some NameKind.cell == some NameKind.local) : Bool) = false := rfl
        simp only [this, Bool.and_false, Bool.false_and]
      · cases hc
    · cases hc
  exact (ps_set (i := i) ok.nd (by rw [ok.n]; exact h1) (loc_ok ok h2) he hsw (.inl (so.fn x))).im fun B σ H ⟨ρ, fls, st, m, S, q⟩ => by
    unfold evS at q
    exact s1 S q fun x st1 v m1 H1 e1 S1 r1 q1 => q1 _ m1 H1 Ext.refl S1.rel (S1.env.set r1 i)
theorem q_sets {is : List Nat} {e : Ex} {ev : Expr} {ts : List Expr} {j : Nat} {p : Pos} (ok : XOk G C k W N sc X) (so : SOk X) (h1 : emTs N (locB sc) is ts = true) (he : PE X ev (tE X G C fl W e)) (hc : cmpB ev = false) (ht : tupB ev = false) :
    PS X (.Assign [.Tuple ts j p] ev pos) (tS X G C fl W (.sets is e)) := by
  have hg : PG X (.Tuple ts j p) (gT X.K (.many is)) := pgT (ok := locB sc) (by unfold emTg; exact h1) ok.n ok.nd ok.calm fun x hx => ⟨loc_ok ok hx, .inl (so.fn x)⟩
  have hw : swappedStores [.Tuple ts j p] ev X.env = pure none := by
    cases ev <;> first | rfl | (simp [tupB] at ht)
  refine (ps_asg (pos := pos) he hg (by show swapsWith ev (some (.Tuple ts j p)) pos.line X.env = pure false; exact noswap hc) hw rfl).im fun B σ H ⟨ρ, fls, st, m, S, q⟩ => ?_
  unfold evS at q
  refine s1 S q fun x st1 v m1 H1 e1 S1 r1 q1 => ?_
  cases ha : asg ρ (.many is) x with
  | none => rw [ha] at q1; exact q1.elim
  | some ρ' =>
    rw [ha] at q1
    exact asg_read ha r1 S1.env fun σ' E' _ => q1 σ' m1 H1 Ext.refl S1.rel E'
theorem q_if {c : Ex} {a b : Sms} {ec : Expr} {sa sb : List Stmt} (hc : PT X ec (tT X G C fl W c)) (ha : PSs X sa (tSs X G C fl W a)) (hb : PSs X sb (tSs X G C fl W b)) : PS X (.If ec sa sb pos) (tS X G C fl W (.ifS c a b)) := by
  refine (ps_if hc ha hb).im fun B σ H ⟨ρ, fls, st, m, S, q⟩ => ?_
  unfold evS at q
  refine sT1 S q (fun x st1 h => ?_) fun b st1 m1 H1 e1 S1 q1 => ?_
  · cases x <;> first | rfl | (rename_i b; cases b <;> exact absurd rfl (h _))
  · cases b with
    | true => rw [if_pos rfl]; exact ⟨ρ, fls, st1, m1, S1, q1⟩
    | false => rw [if_neg Bool.false_ne_true]; exact ⟨ρ, fls, st1, m1, S1, q1⟩
theorem q_nil : PSs X [] (tSs X G C fl W .nil) :=
  pss_nil.im fun B σ H ⟨ρ, fls, st, m, S, q⟩ => by
    unfold evSs at q
    exact q σ m H Ext.refl S.rel S.env
theorem q_cons {a : Sm} {r : Sms} {s : Stmt} {ss : List Stmt} (ha : PS X s (tS X G C fl W a)) (hr : PSs X ss (tSs X G C fl W r)) : PSs X (s :: ss) (tSs X G C fl W (.cons a r)) := by
  refine (pss_cons ha hr).im fun B σ H ⟨ρ, fls, st, m, S, q⟩ => ?_
  unfold evSs at q
  refine ⟨ρ, fls, st, m, S, ?_⟩
  cases e : evS G (C fl) fl a ρ st with
  | next ρ' st' =>
    rw [e] at q
    exact fun σ' m' H' e1 R1 E1 => ⟨ρ', fls, st', m', ⟨R1, S.flf, (S.ext e1 R1).fll, E1⟩, SPost.ext e1 q⟩
  | ret d st' => rw [e] at q; exact q
  | brk ρ' st' => rw [e] at q; exact q
  | cont ρ' st' => rw [e] at q; exact q
  | exc c fs ρ' st' => rw [e] at q; exact q
  | bad => rw [e] at q; exact q

/-! ### a comprehension given to a name -/
theorem q_lcset {i : Nat} {x : Str} {elt : Ex} {tg : Tg} {src : Src} {test : Exs} {own : List Nat} {box : Bool} {px spos : Pos} {eelt etg eit : Expr} {eifs : List Expr} {scope : Scope} {p : Pos} {eb : Ex}
    (ok : XOk G C k W N sc X) (so : SOk X) (h1 : N[i]? = some x) (hsw : swpB sc x px (.ListComp eelt [⟨etg, eit, eifs, 0⟩] scope p) = true) (h : emE G N (.lc elt tg src test own) sc (.ListComp eelt [⟨etg, eit, eifs, 0⟩] scope p) = true)
    (hb : eb = if box = true then .box (.lc elt tg src test own) else .lc elt tg src test own) :
    PS X (.Assign [.Name x px] (.ListComp eelt [⟨etg, eit, eifs, 0⟩] scope p) spos) (tS X G C fl W (.set i eb)) := by
  unfold emE at h
  simp only [Bool.and_eq_true, decide_eq_true_eq] at h
  obtain ⟨⟨⟨⟨⟨⟨⟨⟨⟨h1', h2⟩, h3⟩, h4⟩, h4b⟩, h4c⟩, h5⟩, h6⟩, h7⟩, h8⟩ := h
  have okB : BlkOk X.N X.env.scope scope (ownN N own) := by rw [ok.n, ok.sc]; exact blkOk_by h6
  unfold swpB at hsw
  simp only [Bool.and_eq_true, beq_iff_eq] at hsw
  obtain ⟨⟨g1, g2⟩, g3⟩ := hsw
  have hxl : X.env.scope.names.lookup x = some .local := by
    rw [ok.sc]
    unfold lclB at g1
    split at g1 <;> first | assumption | cases g1
  have hkind : X.env.scope.kind = .function ∨ True := .inr trivial
  refine ⟨fun pins s σ H B I hq => ?_⟩
  have hsw : swapsWith (.ListComp eelt [⟨etg, eit, eifs, 0⟩] scope p) (some (.Name x px)) spos.line X.env = pure true := sw_true I.ok.kind hxl (by rw [g2]; simp) g3
  refine (ps_setLc (own := ownN N own) (i := i) (g := gT X.K tg) (tt := tTs X G C fl W0 test) (te := tE X G C fl W0 elt) ok.calm ok.nd (by rw [ok.n]; exact h1) hxl hsw (exI (fl := fl) src sc _ h3 etg X W ok) okB
    (fun s H c cl fp => pgT h2 ok.n ok.nd ok.calm fun x hx => blk_loc s H c cl fp hx)
    (fun s H c cl fp => (exEs test _ _ h4 _ W0 (ok.blk s H scope cl c fp)).tests h5 h4b) (fun s H c cl fp => (exE elt _ _ h1' _ W0 (ok.blk s H scope cl c fp)).pe) (fold_pl h4c)).run pins s σ H B I ?_
  rw [h8]
  refine lc_imp (fun i hi => by simpa using List.all_eq_true.mp h7 i hi) σ H _ ?_
  obtain ⟨ρ, fls, st, m, S, q⟩ := hq
  unfold evS at q
  cases box with
  | false =>
    rw [if_neg Bool.false_ne_true] at hb
    subst hb
    exact to_F (s1 S q fun x st1 v m1 H1 e1 S1 r1 q1 => q1 _ m1 H1 Ext.refl S1.rel (S1.env.set r1 i))
  | true =>
    rw [if_pos rfl] at hb
    subst hb
    have key := s1 (P := fun v H1 => gName i v σ H1 B.nx) S q fun x st1 v m1 H1 e1 S1 r1 q1 => q1 _ m1 H1 Ext.refl S1.rel (S1.env.set r1 i)
    exact box_F key

theorem sw_trueD {kx vx : Expr} {gs : List Comprehension} {scope : Scope} {pos py : Pos} {y : Str} {l : Nat} {env : PySem.Env} (hk : env.scope.kind = .function) (hy : env.scope.names.lookup y = some .local) (hl : (py.line == pos.line) = true)
    (ha : (scope.names.any fun (n, k) => n == y && (k == .local || k == .cell)) = false) : swapsWith (.DictComp kx vx gs scope pos) (some (.Name y py)) l env = pure true := by
  have ky : env.kindOf y = some .local := hy
  have hb : env.blockKind = .function := by unfold PySem.Env.blockKind; rw [hk]; rfl
  unfold swapsWith
  simp only [hb, ky, ha, Expr.pos, hl]
  rfl
theorem ps_setDc {i : Nat} {y : Str} {py : Pos} {kx vx tg iter : Expr} {ifs : List Expr} {scope : Scope} {own : List (Str × Nat)} {pos spos : Pos} {wi : TI} {g : TG} {tt : TT} {tk tv : TE} (hc : X.calm = true) (hN : X.N.Nodup) (hy : X.N[i]? = some y) (hyl : X.env.scope.names.lookup y = some .local)
    (hsw : swapsWith (.DictComp kx vx [⟨tg, iter, ifs, 0⟩] scope pos) (some (.Name y py)) spos.line X.env = pure true) (hi : PI X tg iter wi) (ok : BlkOk X.N X.env.scope scope own)
    (hg : ∀ (s : Shared) (H : Hp) (C : Addr) (cl : List (Str × Addr)) (fp : List Addr), PG (X.blk s H scope (compEnvC scope cl C X.env) fp) tg g) (ht : ∀ (s : Shared) (H : Hp) (C : Addr) (cl : List (Str × Addr)) (fp : List Addr), PTs (X.blk s H scope (compEnvC scope cl C X.env) fp) ifs tt)
    (hk : ∀ (s : Shared) (H : Hp) (C : Addr) (cl : List (Str × Addr)) (fp : List Addr), PE (X.blk s H scope (compEnvC scope cl C X.env) fp) kx tk)
    (he : ∀ (s : Shared) (H : Hp) (C : Addr) (cl : List (Str × Addr)) (fp : List Addr), PE (X.blk s H scope (compEnvC scope cl C X.env) fp) vx tv) (hs : ∀ x, foldedSetIterable iter X.env x = pure x) :
    PS X (.Assign [.Name y py] (.DictComp kx vx [⟨tg, iter, ifs, 0⟩] scope pos) spos) (tAsg (tDc wi g tt tk tv (own.map (·.2))) (gName i)) := by
  refine ⟨fun pins s σ H D I h => ?_⟩
  rw [exec_Assign_Name_used _ _ _ _ hsw]
  refine wpAny_bind (wpAny_standAt (wpAny_bind ?_))
  show wpAny _ X.A (do let _ ← comprehension (.DictComp kx vx [⟨tg, iter, ifs, 0⟩] scope pos) scope X.env (firstIterPos [⟨tg, iter, ifs, 0⟩] pos) newDict false (eval iter X.env) (some (assign (.Name y py) X.env))) _ _ s
  have h : tDc wi g tt tk tv (own.map (·.2)) σ H (fun x H1 => gName i x σ H1 D.nx) := h
  refine wpAny_bind (thn (dc_core (Qf := fun _ s' => SP X pins D .next s') hc hN I hi ok hg ht hk he hs h fun L C s' m H' I' q hn f => ?_) fun _ s' hq => wpAny_pure (wpAny_pure hq))
  show wpAny _ _ (assign (.Name y py) X.env (.ref L)) _ _ _
  refine wpAny_assign_Name (store_ok2 (v := V.ref L) I' hN hy (.inl hyl) rfl (fun s2 I2 ⟨a, sb, ha⟩ => ?_) (.inr hyl))
  obtain ⟨f0, f1, f2, f3, f4, f5⟩ := f
  have haC : C ≠ a := by
    rcases ha with z | z
    · rw [z]; exact f1
    · exact fun e => f4 y a z e.symm
  refine ⟨m, hn.sameBut sb haC, fun h3 sb3 => ?_⟩
  exact ⟨_, H', I2.turned (t' := s2.toks) (fun b o hb e => (sb3.2 b hb).trans e) f0 f1 f3 f4 f5, q⟩
theorem q_dcset {i : Nat} {x : Str} {kx vx : Ex} {tg : Tg} {src : Src} {test : Exs} {own : List Nat} {box : Bool} {px spos : Pos} {ek ev etg eit : Expr} {eifs : List Expr} {scope : Scope} {p : Pos} {eb : Ex}
    (ok : XOk G C k W N sc X) (so : SOk X) (h1 : N[i]? = some x) (hsw : swpB sc x px (.DictComp ek ev [⟨etg, eit, eifs, 0⟩] scope p) = true) (h : emE G N (.dc kx vx tg src test own) sc (.DictComp ek ev [⟨etg, eit, eifs, 0⟩] scope p) = true)
    (hb : eb = if box = true then .box (.dc kx vx tg src test own) else .dc kx vx tg src test own) :
    PS X (.Assign [.Name x px] (.DictComp ek ev [⟨etg, eit, eifs, 0⟩] scope p) spos) (tS X G C fl W (.set i eb)) := by
  unfold emE at h
  simp only [Bool.and_eq_true, decide_eq_true_eq] at h
  obtain ⟨⟨⟨⟨⟨⟨⟨⟨⟨⟨h1', h1v⟩, h2⟩, h3⟩, h4⟩, h4b⟩, h4c⟩, h5⟩, h6⟩, h7⟩, h8⟩ := h
  have okB : BlkOk X.N X.env.scope scope (ownN N own) := by rw [ok.n, ok.sc]; exact blkOk_by h6
  unfold swpB at hsw
  simp only [Bool.and_eq_true, beq_iff_eq] at hsw
  obtain ⟨⟨g1, g2⟩, g3⟩ := hsw
  have hxl : X.env.scope.names.lookup x = some .local := by
    rw [ok.sc]
    unfold lclB at g1
    split at g1 <;> first | assumption | cases g1
  refine ⟨fun pins s σ H B I hq => ?_⟩
  have hsw : swapsWith (.DictComp ek ev [⟨etg, eit, eifs, 0⟩] scope p) (some (.Name x px)) spos.line X.env = pure true := sw_trueD I.ok.kind hxl (by rw [g2]; simp) g3
  refine (ps_setDc (own := ownN N own) (i := i) (g := gT X.K tg) (tt := tTs X G C fl W0 test) (tk := tE X G C fl W0 kx) (tv := tE X G C fl W0 vx) ok.calm ok.nd (by rw [ok.n]; exact h1) hxl hsw (exI (fl := fl) src sc _ h3 etg X W ok) okB
    (fun s H c cl fp => pgT h2 ok.n ok.nd ok.calm fun x hx => blk_loc s H c cl fp hx)
    (fun s H c cl fp => (exEs test _ _ h4 _ W0 (ok.blk s H scope cl c fp)).tests h5 h4b) (fun s H c cl fp => (exE kx _ _ h1' _ W0 (ok.blk s H scope cl c fp)).pe) (fun s H c cl fp => (exE vx _ _ h1v _ W0 (ok.blk s H scope cl c fp)).pe) (fold_pl h4c)).run pins s σ H B I ?_
  rw [h8]
  refine dc_imp (fun i hi => by simpa using List.all_eq_true.mp h7 i hi) σ H _ ?_
  obtain ⟨ρ, fls, st, m, S, q⟩ := hq
  unfold evS at q
  cases box with
  | false =>
    rw [if_neg Bool.false_ne_true] at hb
    subst hb
    exact to_F (s1 S q fun x st1 v m1 H1 e1 S1 r1 q1 => q1 _ m1 H1 Ext.refl S1.rel (S1.env.set r1 i))
  | true =>
    rw [if_pos rfl] at hb
    subst hb
    have key := s1 (P := fun v H1 => gName i v σ H1 B.nx) S q fun x st1 v m1 H1 e1 S1 r1 q1 => q1 _ m1 H1 Ext.refl S1.rel (S1.env.set r1 i)
    exact box_F key

/-! ### stores to items -/
def tSetD : V → V → V → Hp → (Hp → Prop) → Prop := fun o i v H Q => ∃ a H4, o = .ref a ∧ DPut H a i v H4 ∧ Q H4
theorem set_dict (hu : X.A.units + 1 < cLine) : PSet X tSetD := by
  intro pins s σ H o i v ov iv u Q I ro ri rv h
  obtain ⟨a, H4, rfl, g, q⟩ := h
  cases ro
  exact d_setItem hu I g ri rv fun s' I' => ⟨H4, I', q⟩
def tSetAny (X : Cx) : V → V → V → Hp → (Hp → Prop) → Prop := fun o i v H Q => ∃ t, PSet X t ∧ t o i v H Q
theorem setAny : PSet X (tSetAny X) := fun pins s σ H o i v ov iv u Q I ro ri rv ⟨_, h1, h2⟩ => h1 pins s σ H o i v ov iv u Q I ro ri rv h2
theorem RepK.put {K : PySem.W.Frag} {mg : Str → Option Value} {m : Mp} {H : Hp} {ds : List (Key × D)} {kvs : List (Key × V)} (r : RepK K mg G m H ds kvs) {d : D} {v : V} (q : Rep K mg G m H d v) (k : Key) : RepK K mg G m H (dput ds k d) (putK kvs k v) := by
  have any : ∀ {ds : List (Key × D)} {kvs : List (Key × V)}, RepK K mg G m H ds kvs → (ds.any fun kv => decide (kv.1 = k)) = kvs.any fun kv => decide (kv.1 = k) := by
    intro ds
    induction ds with
    | nil => intro kvs r; cases r; rfl
    | cons p ds ih => intro kvs r; cases r with | cons a t => simp only [List.any_cons, ih t]
  have mapp : ∀ {ds : List (Key × D)} {kvs : List (Key × V)}, RepK K mg G m H ds kvs → RepK K mg G m H (ds.map fun kv => if kv.1 = k then (kv.1, d) else kv) (kvs.map fun kv => if kv.1 = k then (kv.1, v) else kv) := by
    intro ds
    induction ds with
    | nil => intro kvs r; cases r; exact .nil
    | cons p ds ih =>
      intro kvs r
      cases r with
      | @cons k0 d0 v0 _ _ a t =>
        simp only [List.map_cons]
        by_cases e : k0 = k
        · rw [if_pos e, if_pos e]; exact .cons q (ih t)
        · rw [if_neg e, if_neg e]; exact .cons a (ih t)
  have app : ∀ {ds : List (Key × D)} {kvs : List (Key × V)}, RepK K mg G m H ds kvs → RepK K mg G m H (ds ++ [(k, d)]) (kvs ++ [(k, v)]) := by
    intro ds
    induction ds with
    | nil => intro kvs r; cases r; exact .cons q .nil
    | cons p ds ih => intro kvs r; cases r with | cons a t => exact .cons a (ih t)
  unfold dput putK
  rw [any r]
  split
  · exact mapp r
  · exact app r
theorem RepT.put {K : PySem.W.Frag} {mg : Str → Option Value} {m : Mp} {H : Hp} {ds : List (List Key × D)} {kvs : List (List Key × V)} (r : RepT K mg G m H ds kvs) {d : D} {v : V} (q : Rep K mg G m H d v) (k : List Key) : RepT K mg G m H (dput ds k d) (putK kvs k v) := by
  have any : ∀ {ds : List (List Key × D)} {kvs : List (List Key × V)}, RepT K mg G m H ds kvs → (ds.any fun kv => decide (kv.1 = k)) = kvs.any fun kv => decide (kv.1 = k) := by
    intro ds
    induction ds with
    | nil => intro kvs r; cases r; rfl
    | cons p ds ih => intro kvs r; cases r with | cons a t => simp only [List.any_cons, ih t]
  have mapp : ∀ {ds : List (List Key × D)} {kvs : List (List Key × V)}, RepT K mg G m H ds kvs → RepT K mg G m H (ds.map fun kv => if kv.1 = k then (kv.1, d) else kv) (kvs.map fun kv => if kv.1 = k then (kv.1, v) else kv) := by
    intro ds
    induction ds with
    | nil => intro kvs r; cases r; exact .nil
    | cons p ds ih =>
      intro kvs r
      cases r with
      | @cons k0 d0 v0 _ _ a t =>
        simp only [List.map_cons]
        by_cases e : k0 = k
        · rw [if_pos e, if_pos e]; exact .cons q (ih t)
        · rw [if_neg e, if_neg e]; exact .cons a (ih t)
  have app : ∀ {ds : List (List Key × D)} {kvs : List (List Key × V)}, RepT K mg G m H ds kvs → RepT K mg G m H (ds ++ [(k, d)]) (kvs ++ [(k, v)]) := by
    intro ds
    induction ds with
    | nil => intro kvs r; cases r; exact .cons q .nil
    | cons p ds ih => intro kvs r; cases r with | cons a t => exact .cons a (ih t)
  unfold dput putK
  rw [any r]
  split
  · exact mapp r
  · exact app r
theorem RepK.len {K : PySem.W.Frag} {mg : Str → Option Value} {m : Mp} {H : Hp} {ds : List (Key × D)} {kvs : List (Key × V)} (r : RepK K mg G m H ds kvs) : ds.length = kvs.length := by
  induction ds generalizing kvs with
  | nil => cases r; rfl
  | cons p ds ih => cases r with | cons a t => simp [ih t]
theorem RepT.len {K : PySem.W.Frag} {mg : Str → Option Value} {m : Mp} {H : Hp} {ds : List (List Key × D)} {kvs : List (List Key × V)} (r : RepT K mg G m H ds kvs) : ds.length = kvs.length := by
  induction ds generalizing kvs with
  | nil => cases r; rfl
  | cons p ds ih => cases r with | cons a t => simp [ih t]
theorem los_set {f : Nat} {d : D} (hd : d.lo f = true) : ∀ (xs : List D) (j : Nat), D.los f xs = true → D.los f (xs.set j d) = true
  | [], _, _ => rfl
  | x :: xs, 0, h => by
    simp only [D.los, Bool.and_eq_true] at h
    show (D.lo f d && D.los f xs) = true
    rw [hd, h.2]; rfl
  | x :: xs, j + 1, h => by
    simp only [D.los, Bool.and_eq_true] at h
    show (D.lo f x && D.los f (xs.set j d)) = true
    rw [h.1, los_set hd xs j h.2]; rfl
theorem loK_put {f : Nat} {d : D} {k : Key} (hd : d.lo f = true) (xs : List (Key × D)) (h : D.loK f xs = true) : D.loK f (dput xs k d) = true := by
  have mp : ∀ xs : List (Key × D), D.loK f xs = true → D.loK f (xs.map fun kv => if kv.1 = k then (kv.1, d) else kv) = true := by
    intro xs
    induction xs with
    | nil => intro _; rfl
    | cons p xs ih =>
      intro h
      simp only [D.loK, Bool.and_eq_true] at h
      simp only [List.map_cons]
      show (D.lo f (if p.1 = k then (p.1, d) else p).2 && D.loK f _) = true
      rw [ih h.2]
      split
      · rw [hd]; rfl
      · rw [h.1]; rfl
  have ap : ∀ xs : List (Key × D), D.loK f xs = true → D.loK f (xs ++ [(k, d)]) = true := by
    intro xs
    induction xs with
    | nil => intro _; show (D.lo f d && true) = true; rw [hd]; rfl
    | cons p xs ih =>
      intro h
      simp only [D.loK, Bool.and_eq_true] at h
      show (D.lo f p.2 && D.loK f (xs ++ [(k, d)])) = true
      rw [h.1, ih h.2]; rfl
  unfold dput
  split
  · exact mp xs h
  · exact ap xs h
theorem loT_put {f : Nat} {d : D} {k : List Key} (hd : d.lo f = true) (xs : List (List Key × D)) (h : D.loT f xs = true) : D.loT f (dput xs k d) = true := by
  have mp : ∀ xs : List (List Key × D), D.loT f xs = true → D.loT f (xs.map fun kv => if kv.1 = k then (kv.1, d) else kv) = true := by
    intro xs
    induction xs with
    | nil => intro _; rfl
    | cons p xs ih =>
      intro h
      simp only [D.loT, Bool.and_eq_true] at h
      simp only [List.map_cons]
      show (D.lo f (if p.1 = k then (p.1, d) else p).2 && D.loT f _) = true
      rw [ih h.2]
      split
      · rw [hd]; rfl
      · rw [h.1]; rfl
  have ap : ∀ xs : List (List Key × D), D.loT f xs = true → D.loT f (xs ++ [(k, d)]) = true := by
    intro xs
    induction xs with
    | nil => intro _; show (D.lo f d && true) = true; rw [hd]; rfl
    | cons p xs ih =>
      intro h
      simp only [D.loT, Bool.and_eq_true] at h
      show (D.lo f p.2 && D.loT f (xs ++ [(k, d)])) = true
      rw [h.1, ih h.2]; rfl
  unfold dput
  split
  · exact mp xs h
  · exact ap xs h
theorem putD_ok {x i v : D} {st st' : Sto} (hu : X.A.units + 1 < cLine) (e : putD fl x i v st = some st') : ∃ t, PSet X t ∧
    ∀ fls m H a b c, RelX X G fls st m H → (∀ f ∈ fls, f ≤ fl) → RepX X G m H x a → RepX X G m H i b → RepX X G m H v c → ∀ Q : Hp → Prop, (∀ H', Ext m H m H' → RelX X G fls st' m H' → Q H') → t a b c H Q := by
  unfold putD at e
  split at e
  case h_2 => cases e
  rename_i n
  split at e
  · rename_i xs ec
    split at e
    · rename_i j
      split at e
      · rename_i kk ek
        split at e
        · rename_i hw
          cases e
          refine ⟨_, set_list, fun fls m H a b c R hf ra rb rc Q q => ?_⟩
          cases ra with
          | ref hn =>
          cases rb
          obtain ⟨o, h1, h2⟩ := R.content hn ec
          cases h2 with
          | lst rs =>
          have hw := R.write (c := .lst (xs.set kk v)) (o := .lst (_)) hn (.lst (rs.set rc kk)) fun f hff hnf => by
            have h3 : D.lo f (.lst xs) = true := R.clean f hff n _ hnf ec
            exact los_set (wr_lo hw (hf f hff) hnf) xs kk h3
          exact ⟨_, _, j, kk, rfl, rfl, h1, by rw [← rs.length]; exact ek, q _ hw.2 hw.1⟩
        · cases e
      · cases e
    · cases e
  · rename_i kvs ec
    split at e
    · rename_i kk ek
      split at e
      · rename_i hw
        cases e
        refine ⟨_, set_dict hu, fun fls m H a b c R hf ra rb rc Q q => ?_⟩
        cases ra with
        | ref hn =>
        obtain ⟨o, h1, h2⟩ := R.content hn ec
        cases h2 with
        | dk rs =>
        have := keyD_rep ek rb
        subst this
        have hw' := R.write (c := .dk (dput kvs kk v)) (o := .dK (_)) hn (.dk (rs.put rc kk)) fun f hff hnf => by
          have h3 : D.lo f (.dk kvs) = true := R.clean f hff n _ hnf ec
          exact loK_put (wr_lo hw.2 (hf f hff) hnf) kvs h3
        exact ⟨_, _, rfl, DPut.k h1 (by rw [← rs.len, ← SZ_eq]; exact hw.1), q _ hw'.2 hw'.1⟩
      · cases e
    · cases e
  · rename_i kvs ec
    split at e
    · rename_i ds
      split at e
      · rename_i kk ek
        split at e
        · rename_i hw
          cases e
          refine ⟨_, set_dict hu, fun fls m H a b c R hf ra rb rc Q q => ?_⟩
          cases ra with
          | ref hn =>
          obtain ⟨o, h1, h2⟩ := R.content hn ec
          cases h2 with
          | dt rs =>
          cases rb with
          | tup hp1 hp2 rds =>
          have := keysD_rep ek rds
          subst this
          have hw' := R.write (c := .dt (dput kvs kk v)) (o := .dT (_)) hn (.dt (rs.put rc kk)) fun f hff hnf => by
            have h3 : D.lo f (.dt kvs) = true := R.clean f hff n _ hnf ec
            exact loT_put (wr_lo hw.2 (hf f hff) hnf) kvs h3
          exact ⟨_, _, rfl, DPut.t h1 hp2 (by rw [← rs.len, ← SZ_eq]; exact hw.1), q _ hw'.2 hw'.1⟩
        · cases e
      · cases e
    · cases e
  · cases e
theorem q_put {o i e : Ex} {eo ei ev : Expr} {p : Pos} (ok : XOk G C k W N sc X) (ho : PE X eo (tE X G C fl W o)) (hi : PE X ei (tE X G C fl W i)) (he : PE X ev (tE X G C fl W e)) (hc : cmpB ev = false) (hp : plB ei = true) :
    PS X (.Assign [.Subscript eo ei p] ev pos) (tS X G C fl W (.put o i e)) := by
  have hg : PG X (.Subscript eo ei p) (gSub (tE X G C fl W o) (tE X G C fl W i) (tSetAny X)) := pg_sub ho hi setAny fun v => by
    cases ei <;> first | rfl | (simp [plB] at hp)
  refine (ps_asg (pos := pos) he hg (by show swapsWith ev (some (.Subscript eo ei p)) pos.line X.env = pure false; exact noswap hc) (by cases ev <;> rfl) (by rfl)).im fun B σ H ⟨ρ, fls, st, m, S, q⟩ => ?_
  unfold evS at q
  refine s1 S q fun v st1 c m1 H1 e1 S1 r1 q1 => ?_
  refine s1 S1 q1 fun x st2 a m2 H2 e2 S2 r2 q2 => ?_
  refine s1 S2 q2 fun y st3 b m3 H3 e3 S3 r3 q3 => ?_
  cases hd : putD fl x y v st3 with
  | none => rw [hd] at q3; exact q3.elim
  | some st4 =>
    rw [hd] at q3
    obtain ⟨t, h1, h2⟩ := putD_ok (X := X) (G := G) (by have := units_of ok; omega) hd
    exact ⟨t, h1, h2 _ _ _ _ _ _ S3.rel S3.flf (r2.ext e3) r3 ((r1.ext e2).ext e3) _ fun H' x4 R4 => q3 σ m3 H' x4 R4 (S3.env.ext x4)⟩

/-! ### loops -/
theorem q_for {tg : Tg} {src : Src} {b : Sms} {et ei : Expr} {sb : List Stmt} (ok : XOk G C k W N sc X) (so : SOk X) (hg : emTg N (locB sc) tg et = true) (hi : PI X et ei (tI X G C fl W src)) (hb : PSs X sb (tSs X G C fl W b)) (hp : plB ei = true) :
    PS X (.For et ei sb [] pos) (tS X G C fl W (.forS tg src b)) := by
  have hgg : PG X et (gT X.K tg) := pgT hg ok.n ok.nd ok.calm fun x hx => ⟨loc_ok ok hx, .inl (so.fn x)⟩
  refine (ps_for so.pass ok.calm hi hgg hb (fold_pl hp)).im fun B σ H ⟨ρ, fls, st, m, S, q⟩ => ?_
  unfold evS at q
  refine ⟨ρ, fls, st, m, S, ?_⟩
  cases e : evI G (C fl) fl ρ src st with
  | exc c fs s1 => rw [e] at q; exact fun cls dd m' H' e1 R r => q cls dd σ m' H' e1 R (S.env.ext e1) r
  | bad => rw [e] at q; exact q
  | ok xs st1 =>
  rw [e, Out.thenS_ok] at q
  intro J m1 H1 e1 R1 it
  generalize hf : (fun (x : D) (ρ : Env) (st : Sto) => match srcRes src st x with
    | some x => (match asg ρ tg x with
      | some ρ' => evSs G (C fl) fl b ρ' st
      | none => OutS.bad)
    | none => OutS.bad) = f at q
  obtain ⟨ys, hys⟩ : ∃ ys, srcIts src xs = ys := ⟨_, rfl⟩
  have itg := it.go
  have itst := it.stop
  rw [hys] at q itg itst
  have S1 := S.ext e1 R1
  refine ⟨fun i n σi Hi => n = ys.length - i ∧ i ≤ ys.length ∧ ∃ ρi sti mi, Ext m1 H1 mi Hi ∧ Stt X.K X.mg G fl fls sti mi Hi ρi σi ∧ SPost X.K X.mg G fls m1 H1 W ((forGo f (ys.drop i) ρi sti).chk (srcEnd src xs)) B,
    ⟨ys.length, by simp, Nat.zero_le _, ρ, st1, m1, Ext.refl, S1, by rw [List.drop_zero]; exact SPost.ext e1 q⟩, ?_⟩
  rintro i n σi Hi ⟨rfl, hi, ρi, sti, mi, x1, Si, qi⟩
  by_cases hlt : i < ys.length
  · right
    rw [List.drop_eq_getElem_cons hlt] at qi
    simp only [forGo] at qi
    have fe : f ys[i] ρi sti = match srcRes src sti ys[i] with
      | some x => (match asg ρi tg x with
        | some ρ' => evSs G (C fl) fl b ρ' sti
        | none => OutS.bad)
      | none => OutS.bad := by rw [← hf]
    rw [fe] at qi
    cases hres : srcRes src sti ys[i] with
    | none => rw [hres] at qi; exact qi.elim
    | some x0 =>
    rw [hres] at qi
    dsimp only at qi
    obtain ⟨hgo, hyl⟩ := itg fls sti _ _ x1.grow Si.rel i ys[i] x0 (List.getElem?_eq_getElem hlt) hres
    refine ⟨hgo, _, fun σ' H' h' => ⟨ys.length - (i + 1), by omega, h'⟩, fun v H' y => ?_⟩
    obtain ⟨rfl, rv⟩ := hyl v H' y
    cases ha : asg ρi tg x0 with
    | none => rw [ha] at qi; exact qi.elim
    | some ρ' =>
      rw [ha] at qi
      dsimp only at qi
      refine asg_read ha rv Si.env fun σ2 E2 _ => ⟨ρ', fls, sti, mi, ⟨Si.rel, Si.flf, Si.fll, E2⟩, ?_⟩
      have nxt : ∀ {ρ3 : Env} {st3 : Sto}, SPost X.K X.mg G fls m1 H1 W ((forGo f (ys.drop (i + 1)) ρ3 st3).chk (srcEnd src xs)) B → ∀ σ3 m3 H3, Ext mi H' m3 H3 → Rel X.K X.mg G fls st3 m3 H3 → EnvR X.K X.mg G m3 H3 ρ3 σ3 →
          (ys.length - (i + 1) = ys.length - (i + 1) ∧ i + 1 ≤ ys.length ∧ ∃ ρi sti mi, Ext m1 H1 mi H3 ∧ Stt X.K X.mg G fl fls sti mi H3 ρi σ3 ∧ SPost X.K X.mg G fls m1 H1 W ((forGo f (ys.drop (i + 1)) ρi sti).chk (srcEnd src xs)) B) :=
        fun {ρ3 st3} q3 σ3 m3 H3 x3 R3 E3 => ⟨rfl, hlt, ρ3, st3, m3, x1.trans x3, ⟨R3, Si.flf, (Si.ext x3 R3).fll, E3⟩, q3⟩
      cases eb : evSs G (C fl) fl b ρ' sti with
      | next ρ3 st3 => rw [eb] at qi; exact nxt qi
      | cont ρ3 st3 => rw [eb] at qi; exact nxt qi
      | brk ρ3 st3 =>
        rw [eb] at qi
        have qi : SPost X.K X.mg G fls m1 H1 W ((OutS.next ρ3 st3).chk (srcEnd src xs)) B := qi
        unfold OutS.chk at qi
        dsimp only at qi
        split at qi
        · exact fun σ3 m3 H3 x3 R3 E3 => qi σ3 m3 H3 (x1.trans x3) R3 E3
        · exact qi.elim
      | ret d st3 => rw [eb] at qi; exact fun v m3 H3 x3 R3 r3 => qi v m3 H3 (x1.trans x3) R3 r3
      | exc c fs ρ3 st3 => rw [eb] at qi; exact fun cls dd σ3 m3 H3 x3 R3 E3 r3 => qi cls dd σ3 m3 H3 (x1.trans x3) R3 E3 r3
      | bad => rw [eb] at qi; exact qi.elim
  · left
    have hi2 : i = ys.length := by omega
    subst hi2
    rw [List.drop_length] at qi
    simp only [forGo, OutS.chk] at qi
    by_cases hend : srcEnd src xs sti = true
    · rw [if_pos hend] at qi
      exact ⟨itst fls sti _ _ x1.grow Si.rel hend _ (Nat.le_refl _), qi σi mi Hi x1 Si.rel Si.env⟩
    · rw [if_neg hend] at qi
      exact qi.elim
theorem q_whl {c : Ex} {b : Sms} {ec : Expr} {sb : List Stmt} (so : SOk X) (hc : PT X ec (tT X G C fl W c)) (hb : PSs X sb (tSs X G C fl W b)) : PS X (.While ec sb [] pos) (tS X G C fl W (.whl c b)) := by
  refine (ps_while so.pass hc hb).im fun B σ H ⟨ρ, fls, st, m, S, q⟩ => ?_
  unfold evS at q
  generalize hcf : (fun ρ st => evE G (C fl) fl ρ c st) = cf at q
  generalize hbf : (fun ρ st => evSs G (C fl) fl b ρ st) = bf at q
  by_cases hbad : whlE cf bf ρ st = .bad
  · rw [hbad] at q; exact q.elim
  obtain ⟨n0, hn0⟩ := whlE_bad hbad
  generalize hr : whlE cf bf ρ st = r at q hn0
  refine ⟨fun n σi Hi => ∃ ρi sti mi, Ext m H mi Hi ∧ Stt X.K X.mg G fl fls sti mi Hi ρi σi ∧ whlN cf bf n ρi sti = some r, ⟨n0, ρ, st, m, Ext.refl, S, hn0⟩, ?_⟩
  rintro n σi Hi ⟨ρi, sti, mi, x1, Si, hn⟩
  cases n with
  | zero => cases hn
  | succ n =>
  unfold whlN at hn
  have ce : cf ρi sti = evE G (C fl) fl ρi c sti := by rw [← hcf]
  rw [ce] at hn
  refine ⟨ρi, fls, sti, mi, Si, ?_⟩
  cases e : evE G (C fl) fl ρi c sti with
  | exc x fs s1 =>
    rw [e] at hn
    cases hn
    exact fun cls dd m' H' e1 R rr => q cls dd σi m' H' (x1.trans e1) R (Si.env.ext e1) rr
  | bad => rw [e] at hn; cases hn; exact q.elim
  | ok x st1 =>
    rw [e] at hn
    cases x <;> first | (cases hn; exact q.elim) | skip
    rename_i bb
    refine ⟨bb, rfl, fun m2 H2 x2 R2 => ?_⟩
    have S2 := Si.ext x2 R2
    dsimp only
    cases bb with
    | false =>
      rw [if_neg Bool.false_ne_true]
      cases hn
      exact q σi m2 H2 (x1.trans x2) R2 S2.env
    | true =>
      rw [if_pos rfl]
      dsimp only at hn
      refine ⟨_, fun σ' H' h' => ⟨n, Nat.lt_succ_self n, h'⟩, ρi, fls, st1, m2, S2, ?_⟩
      have be : bf ρi st1 = evSs G (C fl) fl b ρi st1 := by rw [← hbf]
      rw [be] at hn
      cases eb : evSs G (C fl) fl b ρi st1 with
      | next ρ3 st3 => rw [eb] at hn; exact fun σ3 m3 H3 x3 R3 E3 => ⟨ρ3, st3, m3, (x1.trans x2).trans x3, ⟨R3, Si.flf, (S2.ext x3 R3).fll, E3⟩, hn⟩
      | cont ρ3 st3 => rw [eb] at hn; exact fun σ3 m3 H3 x3 R3 E3 => ⟨ρ3, st3, m3, (x1.trans x2).trans x3, ⟨R3, Si.flf, (S2.ext x3 R3).fll, E3⟩, hn⟩
      | brk ρ3 st3 => rw [eb] at hn; cases hn; exact fun σ3 m3 H3 x3 R3 E3 => q σ3 m3 H3 ((x1.trans x2).trans x3) R3 E3
      | ret d st3 => rw [eb] at hn; cases hn; exact fun v m3 H3 x3 R3 r3 => q v m3 H3 ((x1.trans x2).trans x3) R3 r3
      | exc c fs ρ3 st3 => rw [eb] at hn; cases hn; exact fun cls dd σ3 m3 H3 x3 R3 E3 r3 => q cls dd σ3 m3 H3 ((x1.trans x2).trans x3) R3 E3 r3
      | bad => rw [eb] at hn; cases hn; exact q.elim
end
end Ev

set_option Elab.async false
set_option linter.all false
set_option maxRecDepth 100000
set_option maxHeartbeats 8000000
/-! Ev, part 16: the induction over statements; defs. -/
namespace Ev
open PySem L2 PySem.Spec
open PyProof.Rows hiding St
section
variable {G : Prog} {C : Nat → Nat → List D → Sto → Out D} {fl k : Nat} {N : List Str} {sc : Scope}
theorem lc_only {e : Ex} {eelt etg eit : Expr} {eifs : List Expr} {scope : Scope} {p : Pos} (h : emE G N e sc (.ListComp eelt [⟨etg, eit, eifs, 0⟩] scope p) = true) :
    ∃ elt tg src test own, (e = .lc elt tg src test own ∨ e = .box (.lc elt tg src test own)) ∧ emE G N (.lc elt tg src test own) sc (.ListComp eelt [⟨etg, eit, eifs, 0⟩] scope p) = true := by
  cases e with
  | lc elt tg src test own => exact ⟨elt, tg, src, test, own, .inl rfl, h⟩
  | box a =>
    have h' : isF a = true ∧ emE G N a sc (.ListComp eelt [⟨etg, eit, eifs, 0⟩] scope p) = true := by
      unfold emE at h
      simpa using h
    cases a with
    | lc elt tg src test own => exact ⟨elt, tg, src, test, own, .inr rfl, h'.2⟩
    | box b => simp [isF] at h'
    | _ => exfalso; have h2 := h'.2; unfold emE at h2; cases h2
  | _ => exfalso; unfold emE at h; cases h
theorem dc_only {e : Ex} {sc : Scope} {ek ev : Expr} {gs : List Comprehension} {scope : Scope} {p : Pos} (h : emE G N e sc (.DictComp ek ev gs scope p) = true) :
    ∃ kx vx tg src test own, (e = .dc kx vx tg src test own ∨ e = .box (.dc kx vx tg src test own)) ∧ emE G N (.dc kx vx tg src test own) sc (.DictComp ek ev gs scope p) = true := by
  cases e with
  | dc kx vx tg src test own => exact ⟨kx, vx, tg, src, test, own, .inl rfl, h⟩
  | box a =>
    unfold emE at h
    have h' : isF a = true ∧ emE G N a sc (.DictComp ek ev gs scope p) = true := by simpa using h
    cases a with
    | dc kx vx tg src test own => exact ⟨kx, vx, tg, src, test, own, .inr rfl, h'.2⟩
    | box b => simp [isF] at h'
    | _ => exfalso; have h2 := h'.2; unfold emE at h2; cases h2
  | _ => exfalso; unfold emE at h; cases h
mutual
theorem stS : ∀ (x : Sm) (s : Stmt), emS G N sc x s = true → ∀ (X : Cx) (W : WX), XOk G C k W N sc X → SOk X → PS X s (tS X G C fl W x)
  | .set i e, s, h, X, W, ok, so => by
    unfold emS at h
    split at h
    · rename_i x px ev p
      simp only [Bool.and_eq_true, decide_eq_true_eq] at h
      obtain ⟨⟨⟨h1, h2⟩, h3⟩, h4⟩ := h
      by_cases hc : cmpB ev = true
      · rw [hc] at h4
        by_cases hn : nswB sc x ev = true
        · exact q_set2 ok so h1 h2 (exE e sc _ h3 X W ok).pe hn
        have h5 : swpB sc x px ev = true := by simpa [hn] using h4
        have h6 := h5
        unfold swpB at h6
        split at h6
        · obtain ⟨elt, tg, src, test, own, he, hl⟩ := lc_only h3
          rcases he with rfl | rfl
          · exact q_lcset (box := false) ok so h1 h5 hl rfl
          · exact q_lcset (box := true) ok so h1 h5 hl rfl
        · obtain ⟨kx, vx, tg, src, test, own, he, hl⟩ := dc_only h3
          rcases he with rfl | rfl
          · exact q_dcset (box := false) ok so h1 h5 hl rfl
          · exact q_dcset (box := true) ok so h1 h5 hl rfl
        · cases h6
      · exact q_set ok so h1 h2 (exE e sc _ h3 X W ok).pe (by simpa using hc)
    · cases h
  | .sets is e, s, h, X, W, ok, so => by
    unfold emS at h
    split at h
    · simp only [Bool.and_eq_true, Bool.not_eq_true'] at h
      exact q_sets ok so h.1.1.1 (exE e sc _ h.1.1.2 X W ok).pe h.1.2 h.2
    · cases h
  | .put o i e, s, h, X, W, ok, so => by
    unfold emS at h
    split at h
    · simp only [Bool.and_eq_true, Bool.not_eq_true'] at h
      exact q_put ok (exE o sc _ h.1.1.1.1 X W ok).pe (exE i sc _ h.1.1.1.2 X W ok).pe (exE e sc _ h.1.1.2 X W ok).pe h.1.2 h.2
    · cases h
  | .fld _ _ _, s, h, X, W, ok, so => by unfold emS at h; cases h
  | .expr e, s, h, X, W, ok, so => by
    unfold emS at h
    split at h
    · simp only [Bool.and_eq_true, Bool.not_eq_true'] at h
      exact q_expr (exE e sc _ h.1 X W ok).pe h.2
    · cases h
  | .doc, s, h, X, W, ok, so => by
    unfold emS at h
    split at h
    · exact q_doc
    · cases h
  | .ret e, s, h, X, W, ok, so => by
    unfold emS at h
    split at h
    · exact q_ret (exE e sc _ h X W ok).pe
    · cases h
  | .retN, s, h, X, W, ok, so => by
    unfold emS at h
    split at h
    · exact q_retN
    · cases h
  | .ifS c a b, s, h, X, W, ok, so => by
    unfold emS at h
    split at h
    · simp only [Bool.and_eq_true] at h
      exact q_if ((exE c sc _ h.1.1.1 X W ok).pt h.1.1.2) (stSs a _ h.1.2 X W ok so) (stSs b _ h.2 X W ok so)
    · cases h
  | .forS tg src b, s, h, X, W, ok, so => by
    unfold emS at h
    split at h
    · simp only [Bool.and_eq_true] at h
      exact q_for ok so h.1.1.1 (exI src sc _ h.1.1.2 _ X W ok) (stSs b _ h.1.2 X W ok so) h.2
    · cases h
  | .whl c b, s, h, X, W, ok, so => by
    unfold emS at h
    split at h
    · simp only [Bool.and_eq_true] at h
      exact q_whl so ((exE c sc _ h.1.1 X W ok).pt h.1.2) (stSs b _ h.2 X W ok so)
    · cases h
  | .brk, s, h, X, W, ok, so => by
    unfold emS at h
    split at h
    · exact q_brk
    · cases h
  | .cont, s, h, X, W, ok, so => by
    unfold emS at h
    split at h
    · exact q_cont
    · cases h
  | .raise c mm, s, h, X, W, ok, so => by
    unfold emS at h
    split at h
    · exact q_raise ok h
    · cases h
  | .raiseI _ _, s, h, X, W, ok, so => by unfold emS at h; cases h
  | .tryS b hs, s, h, X, W, ok, so => by
    unfold emS at h
    split at h
    · rename_i sb hds p
      simp only [Bool.and_eq_true] at h
      obtain ⟨h1, h2⟩ := h
      have ih := fun (X' : Cx) (W' : WX) (ok' : XOk G C k W' N sc X') (so' : SOk X') => stSs b sb h1 X' W' ok' so'
      unfold emHd at h2
      split at h2
      · split at h2
        · simp only [Bool.and_eq_true] at h2
          obtain ⟨h3, h4⟩ := h2
          split at h4
          · exact q_try0 ok so h3 h4 ih
          · simp only [Bool.and_eq_true, decide_eq_true_eq] at h4
            exact q_try1 ok so h3 h4.1.1 h4.1.2 h4.2 ih
          · cases h4
        · cases h2
      · cases h2
    · cases h
theorem stSs : ∀ (x : Sms) (ss : List Stmt), emSs G N sc x ss = true → ∀ (X : Cx) (W : WX), XOk G C k W N sc X → SOk X → PSs X ss (tSs X G C fl W x)
  | .nil, ss, h, X, W, ok, so => by
    unfold emSs at h
    split at h
    · exact q_nil
    · cases h
  | .cons a r, ss, h, X, W, ok, so => by
    unfold emSs at h
    split at h
    · simp only [Bool.and_eq_true] at h
      exact q_cons (stS a _ h.1 X W ok so) (stSs r _ h.2 X W ok so)
    · cases h
end
end

/-! ### what is left when a frame is left -/
section
variable {K : PySem.W.Frag} {mg : Str → Option Value} {G : Prog} {m : Mp} {H : Hp}
mutual
theorem Rep.lo : ∀ {d : D} {v : V}, Rep K mg G m H d v → d.lo m.c.length = true
  | _, _, .non => rfl
  | _, _, .bl b => rfl
  | _, _, .int i => rfl
  | _, _, .str h => rfl
  | _, _, .tup n e r => Reps.lo r
  | _, _, .tk e r => Reps.lo r
  | _, _, .lst n e r => Reps.lo r
  | _, _, .fz n e r => Reps.lo r
  | _, _, .fzK e r => Reps.lo r
  | _, _, .dk n e r => RepK.lo r
  | _, _, .dt n e r => RepT.lo r
  | _, _, .ref e => decide_eq_true (List.getElem?_eq_some_iff.mp e).1
  | _, _, .fn e q => rfl
  | _, _, .ty n => rfl
theorem Reps.lo : ∀ {d : List D} {v : List V}, Reps K mg G m H d v → D.los m.c.length d = true
  | _, _, .nil => rfl
  | _, _, .cons r t => by
    show (_ && _) = true
    rw [Rep.lo r, Reps.lo t]; rfl
theorem RepK.lo : ∀ {d : List (Key × D)} {v : List (Key × V)}, RepK K mg G m H d v → D.loK m.c.length d = true
  | _, _, .nil => rfl
  | _, _, .cons r t => by
    show (_ && _) = true
    rw [Rep.lo r, RepK.lo t]; rfl
theorem RepT.lo : ∀ {d : List (List Key × D)} {v : List (List Key × V)}, RepT K mg G m H d v → D.loT m.c.length d = true
  | _, _, .nil => rfl
  | _, _, .cons r t => by
    show (_ && _) = true
    rw [Rep.lo r, RepT.lo t]; rfl
end
def Mp.pop (m : Mp) (f : Nat) : Mp := ⟨m.c.take f, m.h⟩
theorem Mp.pop_live {m : Mp} {f : Nat} {p : Addr} (h : ¬ m.live p) : ¬ (m.pop f).live p := fun z => by
  rcases z with z | z
  · exact h (.inl (List.mem_of_mem_take z))
  · exact h (.inr z)
mutual
theorem Rep.pop (f : Nat) : ∀ {d : D} {v : V}, Rep K mg G m H d v → d.lo f = true → Rep K mg G (m.pop f) H d v
  | _, _, .non, _ => .non
  | _, _, .bl b, _ => .bl b
  | _, _, .int i, _ => .int i
  | _, _, .str h, _ => .str h
  | _, _, .tup n e r, l => .tup (Mp.pop_live n) e (Reps.pop f r l)
  | _, _, .tk e r, l => .tk e (Reps.pop f r l)
  | _, _, .lst n e r, l => .lst (Mp.pop_live n) e (Reps.pop f r l)
  | _, _, .fz n e r, l => .fz (Mp.pop_live n) e (Reps.pop f r l)
  | _, _, .fzK e r, l => .fzK e (Reps.pop f r l)
  | _, _, .dk n e r, l => .dk (Mp.pop_live n) e (RepK.pop f r l)
  | _, _, .dt n e r, l => .dt (Mp.pop_live n) e (RepT.pop f r l)
  | _, _, .ref e, l => .ref (by
      have l' := of_decide_eq_true l
      show (m.c.take f)[_]? = _
      rw [List.getElem?_take_of_lt l']; exact e)
  | _, _, .fn e q, _ => .fn e q
  | _, _, .ty n, _ => .ty n
theorem Reps.pop (f : Nat) : ∀ {d : List D} {v : List V}, Reps K mg G m H d v → D.los f d = true → Reps K mg G (m.pop f) H d v
  | _, _, .nil, _ => .nil
  | _, _, .cons r t, l => by
    simp only [D.los, Bool.and_eq_true] at l
    exact .cons (Rep.pop f r l.1) (Reps.pop f t l.2)
theorem RepK.pop (f : Nat) : ∀ {d : List (Key × D)} {v : List (Key × V)}, RepK K mg G m H d v → D.loK f d = true → RepK K mg G (m.pop f) H d v
  | _, _, .nil, _ => .nil
  | _, _, .cons r t, l => by
    simp only [D.loK, Bool.and_eq_true] at l
    exact .cons (Rep.pop f r l.1) (RepK.pop f t l.2)
theorem RepT.pop (f : Nat) : ∀ {d : List (List Key × D)} {v : List (List Key × V)}, RepT K mg G m H d v → D.loT f d = true → RepT K mg G (m.pop f) H d v
  | _, _, .nil, _ => .nil
  | _, _, .cons r t, l => by
    simp only [D.loT, Bool.and_eq_true] at l
    exact .cons (Rep.pop f r l.1) (RepT.pop f t l.2)
end
theorem CellR.pop (f : Nat) {d : D} {o : HO} (r : CellR K mg G m H d o) (l : d.lo f = true) : CellR K mg G (m.pop f) H d o := by
  cases r with
  | lst r => exact .lst (r.pop f l)
  | dk r => exact .dk (r.pop f l)
  | dt r => exact .dt (r.pop f l)
theorem Rel.pop {fls : List Nat} {st : Sto} {f : Nat} (R : Rel K mg G (f :: fls) st m H) (hf : ∀ g ∈ fls, g ≤ f) : Rel K mg G fls (st.take f) (m.pop f) H := by
  have hfl := R.fle f List.mem_cons_self
  refine ⟨by show (m.c.take f).length = _; rw [List.length_take, List.length_take, R.len], R.nd.sublist (List.take_sublist _ _), fun n c p e1 e2 => ?_, fun p hp => ?_, fun g hg n c hn e1 => ?_, fun g hg => ?_⟩
  · have e2 : (m.c.take f)[n]? = some p := e2
    have hn : n < f := by
      by_cases hn : n < f
      · exact hn
      · rw [List.getElem?_eq_none (by rw [List.length_take]; omega)] at e1; cases e1
    rw [List.getElem?_take_of_lt hn] at e1 e2
    obtain ⟨o, h1, h2⟩ := R.cell n c p e1 e2
    exact ⟨o, h1, h2.pop f (R.clean f List.mem_cons_self n c hn e1)⟩
  · obtain ⟨h1, h2⟩ := R.hid p hp
    exact ⟨fun z => h1 (List.mem_of_mem_take z), h2⟩
  · have hn' : n < f := Nat.lt_of_lt_of_le hn (hf g hg)
    rw [List.getElem?_take_of_lt hn'] at e1
    exact R.clean g (List.mem_cons_of_mem _ hg) n c hn e1
  · rw [List.length_take]
    have := hf g hg
    omega
theorem Ext.pop {m0 : Mp} {H0 : Hp} {f : Nat} (x : Ext m0 H0 m H) (hf : m0.c.length = f) : Ext m0 H0 (m.pop f) H :=
  ⟨fun n p e => by
    show (m.c.take f)[n]? = some p
    rw [List.getElem?_take_of_lt (by rw [← hf]; exact (List.getElem?_eq_some_iff.mp e).1)]
    exact x.pre n p e, fun p o e n => ⟨(x.old p o e n).1, Mp.pop_live (x.old p o e n).2⟩, x.hid, x.hkeep⟩
theorem unbox1_rep {fls : List Nat} {st : Sto} {f : Nat} {d d' : D} {v : V} (R : Rel K mg G fls st m H) (e : unbox1 f st d = some d') (r : Rep K mg G m H d v) : Rep K mg G (m.pop f) H d' v := by
  have gen : ∀ {d d' : D}, Rep K mg G m H d v → (if d.lo 0 = true then some d else none) = some d' → Rep K mg G (m.pop f) H d' v := fun {d d'} r e => by
    split at e
    · cases e
      exact r.pop f (lo_mono (Nat.zero_le f) _ (by assumption))
    · cases e
  unfold unbox1 at e
  split at e
  · rename_i n
    cases r with
    | ref hn =>
    split at e
    · rename_i hlt
      cases e
      exact Rep.pop f (.ref hn) (decide_eq_true hlt)
    · rename_i hge
      split at e
      · rename_i c ec
        split at e
        · rename_i hc
          cases e
          obtain ⟨o, h1, h2⟩ := R.content hn ec
          have hl := lo_mono (Nat.zero_le f) _ hc.2
          have hv : ∀ {p}, m.c[n]? = some p → ¬ (m.pop f).live p := fun {p} hn z => by
            rcases z with z | z
            · obtain ⟨j, hj, ej⟩ := List.getElem_of_mem z
              have z0 : (m.pop f).c[j]? = some p := by rw [List.getElem?_eq_getElem hj, ej]
              have z' : (m.c.take f)[j]? = some p := z0
              have hj2 : j < f := by
                have : j < (m.c.take f).length := hj
                rw [List.length_take] at this; omega
              rw [List.getElem?_take_of_lt hj2] at z'
              obtain ⟨a1, a2⟩ := List.getElem?_eq_some_iff.mp z'
              obtain ⟨b1, b2⟩ := List.getElem?_eq_some_iff.mp hn
              have := (List.getElem_inj R.nd).mp (a2.trans b2.symm)
              omega
            · exact (R.hid p z).1 (List.mem_of_getElem? hn)
          cases h2 with
          | lst r => exact .lst (hv hn) h1 (r.pop f hl)
          | dk r => exact .dk (hv hn) h1 (r.pop f hl)
          | dt r => exact .dt (hv hn) h1 (r.pop f hl)
        · cases e
      · cases e
  · exact gen r e
theorem unboxs_rep {fls : List Nat} {st : Sto} {f : Nat} (R : Rel K mg G fls st m H) : ∀ {ds ds' : List D} {vs : List V}, unboxs f st ds = some ds' → Reps K mg G m H ds vs → Reps K mg G (m.pop f) H ds' vs
  | [], ds', _, e, .nil => by
    cases e
    exact .nil
  | d :: ds, ds', _, e, .cons r rs => by
    unfold unboxs at e
    split at e
    · rename_i a as e1 e2
      cases e
      exact .cons (unbox1_rep R e1 r) (unboxs_rep R e2 rs)
    · cases e
theorem unbox_rep {fls : List Nat} {st : Sto} {f : Nat} {d d' : D} {v : V} (R : Rel K mg G fls st m H) (e : unbox f st d = some d') (r : Rep K mg G m H d v) : Rep K mg G (m.pop f) H d' v := by
  unfold unbox at e
  split at e
  · exact unbox1_rep (d := .ref _) R e r
  · rename_i d _
    split at e
    · cases e
      exact r.pop f (lo_mono (Nat.zero_le f) _ (by assumption))
    · split at e
      · rename_i ds _ _
        cases r with
        | tup n e1 rs =>
        rw [Option.map_eq_some_iff] at e
        obtain ⟨ds', e2, rfl⟩ := e
        exact .tup (Mp.pop_live n) e1 (unboxs_rep R e2 rs)
      · cases e
end

/-- what is known of a def of the table: where it stands, its names, its text -/
structure FnFact (K : PySem.W.Frag) (mg : Str → Option Value) (G : Prog) (F : Fn) (a : Addr) (fd : FuncData) (ps : List Str) (st : Stmt) (qual : Str) : Prop where
  mgf : mg F.name = some (.ref a)
  fn : Fun K F.name qual st a fd
  sc : FnScope F.N ps (defScope st)
  np : ps.length = F.np
  bi : Binds K fd ps []
  em : emSs G F.N (defScope st) F.body (defBody st) = true
/-- the module's facts -/
structure GFact (w : World) (K : PySem.W.Frag) (mg : Str → Option Value) (G : Prog) : Prop where
  blt : ∀ n, mg (biName n) = none
  rng : mg "range" = none
  rev : mg "reversed" = none
  tys : ∀ t ∈ tyNames, mg t.2 = none
  exc : ExcF K mg G
  cons : ∀ (c : Nat) (p : Str × D), G.cons[c]? = some p → ∃ u v, mg p.1 = some u ∧ RelV v u ∧ ∀ m H, Rep K mg G m H p.2 v
  dics : ∀ (c : Nat) (p : Str × List (Str × D)), G.dics[c]? = some p → ∃ a, mg p.1 = some (.ref a) ∧ ∀ z d, p.2.lookup z = some d → ∃ v, KDct K w a z v ∧ ∀ m H, Rep K mg G m H d v
  fns : ∀ (f : Nat) (F : Fn), G.fns[f]? = some F → ∃ a fd ps st qual, FnFact K mg G F a fd ps st qual

theorem dic_of {T : Str → D → Prop} : ∀ {ps : List (Str × D)}, (∀ p ∈ ps, T p.1 p.2) → ∀ z d, ps.lookup z = some d → T z d
  | [], _, z, d, h => by cases h
  | (k, y) :: r, hp, z, d, h => by
    rw [List.lookup_cons] at h
    by_cases e : z = k
    · subst e
      simp at h
      subst h
      exact hp (z, y) (by simp)
    · have : (z == k) = false := by simpa using e
      rw [this] at h
      exact dic_of (fun p hp' => hp p (by simp [hp'])) z d h
section
variable {P : Program} {w : World} {K : PySem.W.Frag} {mg : Str → Option Value} {base : Heap} {G : Prog}
theorem envR_start {m : Mp} {H : Hp} {ds : List D} {vs : List V} {N : List Str} {np : Nat} (r : Reps K mg G m H ds vs) (hl : ds.length = np) : EnvR K mg G m H (ds.map some ++ List.replicate (N.length - np) none) (L2.start N vs) := by
  have hv : vs.length = np := by rw [← r.length, hl]
  refine ⟨by unfold L2.start; simp [hl, hv], fun i d e => ?_⟩
  by_cases hi : i < ds.length
  · rw [List.getElem?_append_left (by simpa using hi), List.getElem?_map] at e
    have e2 : ds[i]? = some d := by
      cases h : ds[i]? with
      | none => rw [h] at e; cases e
      | some x => rw [h] at e; cases e; rfl
    obtain ⟨v, h1, h2⟩ := r.get e2
    refine ⟨v, ?_, h2⟩
    unfold L2.start
    have hvi : i < vs.length := by rw [← r.length]; exact hi
    rw [List.getElem?_append_left (by simpa using hvi), List.getElem?_map, h1]; rfl
  · rw [List.getElem?_append_right (by simpa using hi), List.getElem?_replicate] at e
    split at e <;> cases e
theorem run_ok (g : GFact w K mg G) : ∀ (k f : Nat) (F : Fn), G.fns[f]? = some F → ∀ a fd ps st qual, FnFact K mg G F a fd ps st qual → FnOk P w K mg base (CX P w) k a fd ps (spEv K mg G (run G k) f F.np)
  | 0, f, F, hF, a, fd, ps, st, qual, ft =>
    ⟨fun vs H Q E ⟨_, _, _, _, _, _, _, _, _, _, q⟩ => q.elim, fun A outer s H args us vs Q E _ _ _ _ ⟨_, _, _, _, _, _, _, _, _, _, q⟩ => q.elim⟩
  | k + 1, f, F, hF, a, fd, ps, st, qual, ft => by
    refine ft.fn.okX ft.sc (fun vs H Q E h => ?_) (fun cdv A outer s H vs Q E hr h => ?_)
    · obtain ⟨ds, fls, st0, m, fl, R, hf, hl, rs, hn, q⟩ := h
      rw [← rs.length, hn, ft.np]
    · obtain ⟨ds, fls, st0, m, fl, R, hf, hl, rs, hn, q⟩ := h
      have ok : XOk G (run G k) k (fun cls d _ H => E cls d H) F.N (defScope st) (cxOf (CX P w) P w K mg base F.N qual (defScope st) a cdv A outer s H E) := by
        refine ⟨rfl, ft.sc.nd, rfl, rfl, hr, takes_of rfl rfl rfl rfl, g.blt, g.rng, g.rev, g.tys, g.exc, fun f' F' hF' => ?_, g.cons, g.dics⟩
        obtain ⟨a', fd', ps', st', qual', ft'⟩ := g.fns f' F' hF'
        exact ⟨a', fd', ps', ft'.mgf, ft'.fn.kp, ft'.np, ft'.bi, run_ok g k f' F' hF' a' fd' ps' st' qual' ft'⟩
      have so : SOk (cxOf (CX P w) P w K mg base F.N qual (defScope st) a cdv A outer s H E) := ⟨fun _ => rfl, rfl, rfl, passes_of rfl⟩
      have hlen := R.len
      cases hpop : F.pop with
      | false =>
        unfold run at q
        rw [hF] at q
        dsimp only at q
        rw [if_pos hn, hpop] at q
        simp only [Bool.false_eq_true, if_false, fin] at q
        refine ⟨_, stSs (fl := fl) F.body _ ft.em _ _ ok so, _, fls, st0, m, ⟨R, hf, hl, envR_start rs hn⟩, ?_⟩
        cases e : evSs G (run G k fl) fl F.body (ds.map some ++ List.replicate (F.N.length - F.np) none) st0 with
        | ret d st' => rw [e] at q; exact fun v m' H' x R' r => q v m' H' x R' r
        | next ρ' st' => rw [e] at q; exact fun σ m' H' x R' E' => q .non m' H' x R' .non
        | brk ρ' st' => rw [e] at q; exact q.elim
        | cont ρ' st' => rw [e] at q; exact q.elim
        | exc c fs ρ' st' => rw [e] at q; exact fun cls dd σ m' H' x R' E' er => q cls dd m' H' x R' er
        | bad => rw [e] at q; exact q.elim
      | true =>
        unfold run at q
        rw [hF] at q
        dsimp only at q
        rw [if_pos hn, hpop] at q
        simp only [if_true, fin] at q
        have R2 : Rel K mg G (st0.length :: fls) st0 m H := ⟨R.len, R.nd, R.cell, R.hid, fun f' hf' n c hnn ec => by
          rcases List.mem_cons.mp hf' with rfl | hf'
          · have hn2 : n < m.c.length := by rw [R.len]; exact hnn
            obtain ⟨o, h1, h2⟩ := R.cell n c _ ec (List.getElem?_eq_getElem hn2)
            rw [← R.len]
            cases h2 with
            | lst r => exact r.lo
            | dk r => exact r.lo
            | dt r => exact r.lo
          · exact R.clean f' hf' n c hnn ec, fun f' hf' => by
          rcases List.mem_cons.mp hf' with rfl | hf'
          · exact Nat.le_refl _
          · exact R.fle f' hf'⟩
        refine ⟨_, stSs (fl := st0.length) F.body _ ft.em _ _ ok so, _, st0.length :: fls, st0, m, ⟨R2, fun f' hf' => R2.fle f' hf', Nat.le_refl _, envR_start rs hn⟩, ?_⟩
        have fin : ∀ {d : D} {st' : Sto}, Post K mg G fls m H E (match unbox st0.length st' d with | some d' => Out.ok d' (st'.take st0.length) | none => .bad) (fun d st' => QV K mg G fls st' m H d Q) →
            ∀ v m' H', Ext m H m' H' → Rel K mg G (st0.length :: fls) st' m' H' → Rep K mg G m' H' d v → Q v H' := fun {d st'} q v m' H' x R' r => by
          cases eu : unbox st0.length st' d with
          | none => rw [eu] at q; exact q.elim
          | some d' =>
            rw [eu] at q
            exact q v _ H' (x.pop R.len) (R'.pop fun f' hf' => R.fle f' hf') (unbox_rep R' eu r)
        cases e : evSs G (run G k st0.length) st0.length F.body (ds.map some ++ List.replicate (F.N.length - F.np) none) st0 with
        | ret d st' => rw [e] at q; exact fun v m' H' x R' r => fin q v m' H' x R' r
        | next ρ' st' => rw [e] at q; exact fun σ m' H' x R' E' => fin q .non m' H' x R' .non
        | brk ρ' st' => rw [e] at q; exact q.elim
        | cont ρ' st' => rw [e] at q; exact q.elim
        | exc c fs ρ' st' => rw [e] at q; exact fun cls dd σ m' H' x R' E' er => q cls dd _ H' (x.pop R.len) (R'.pop fun f' hf' => R.fle f' hf') er
        | bad => rw [e] at q; exact q.elim
/-- the law's promise: True of every script -/
def spLaw (K : PySem.W.Frag) : Sp := fun vs H Q _ => ∃ (a : Addr) (ns : List Int), vs = [.ref a] ∧ Only H ∧ SqL K H a (ns.map V.int) ∧ ns.length ≤ 63 ∧ ∀ H', Q (.bl true) H'
theorem spLaw_ev {k f : Nat} (h : ∀ ns : List Int, ns.length ≤ 63 → ∃ st', run G k 0 f [.fz (ns.map D.int)] [] = .ok (.bl true) st') : ∀ vs H Q E, spLaw K vs H Q E → spEv K mg G (run G k) f 1 vs H Q E := by
  intro vs H Q E ⟨a, ns, e, hO, hS, hn, q⟩
  obtain ⟨st', hr⟩ := h ns hn
  have rz : Rep K mg G ⟨[], []⟩ H (.fz (ns.map D.int)) (.ref a) := by
    rcases hS with (hS | ⟨o, hS⟩) | hS
    · rcases hO a with z | ⟨o, xs, z⟩
      · rw [hS] at z; cases z
      · rw [hS] at z; cases z
    · exact .fz (fun z => by rcases z with z | z <;> cases z) hS (Reps.ints ns)
    · exact .fzK hS (Reps.ints ns)
  have R : Rel K mg G [] [] ⟨[], []⟩ H := by
    refine ⟨rfl, .nil, fun n c p e1 _ => ?_, fun p hp => ?_, fun f hf => ?_, fun f hf => ?_⟩
    · simp at e1
    · cases hp
    · cases hf
    · cases hf
  subst e
  refine ⟨[.fz (ns.map D.int)], [], [], ⟨[], []⟩, 0, R, (fun g hg => by cases hg), Nat.le_refl _, Reps.cons rz Reps.nil, rfl, ?_⟩
  rw [hr]
  intro v m' H' x R r
  cases r
  exact q H'
end
end Ev

set_option Elab.async false
set_option linter.all false
set_option maxRecDepth 100000
set_option maxHeartbeats 4000000
/-! Ev, part 17: how the evaluator is worked with. -/
namespace Ev
open PySem L2

/-- a loop's turn -/
noncomputable def fb (G : Prog) (C : Nat → List D → Sto → Out D) (fl : Nat) (tg : Tg) (b : Sms) : D → Env → Sto → OutS := fun x ρ st => match asg ρ tg x with
    | some ρ' => evSs G C fl b ρ' st
    | none => .bad
/-- a comprehension's turn -/
noncomputable def lb (G : Prog) (C : Nat → List D → Sto → Out D) (fl : Nat) (ρ : Env) (own : List Nat) (tg : Tg) (test : Exs) (elt : Ex) : D → Sto → Out (Option D) := fun x st => match asg (wipeD ρ own) tg x with
          | some ρ' => (evT G C fl ρ' test st).bind fun b st => if b = true then (evE G C fl ρ' elt st).bind fun d st => .ok (some d) st else .ok none st
          | none => .bad
section
variable {G : Prog} {C : Nat → List D → Sto → Out D} {fl : Nat} {ρ : Env} {st : Sto}
@[simp] theorem fb_one {i b x} : fb G C fl (.one i) b x ρ st = evSs G C fl b (ρ.set i (some x)) st := rfl
@[simp] theorem fb_many {is b xs} : fb G C fl (.many is) b (.tup xs) ρ st = match setSlots ρ is xs with
    | some ρ' => evSs G C fl b ρ' st
    | none => .bad := rfl
@[simp] theorem fb_manyK {is b xs} : fb G C fl (.many is) b (.tk xs) ρ st = match setSlots ρ is xs with
    | some ρ' => evSs G C fl b ρ' st
    | none => .bad := rfl
@[simp] theorem lb_one {own i test elt x} : lb G C fl ρ own (.one i) test elt x st = (evT G C fl ((wipeD ρ own).set i (some x)) test st).bind fun b st => if b = true then (evE G C fl ((wipeD ρ own).set i (some x)) elt st).bind fun d st => .ok (some d) st else .ok none st := rfl
@[simp] theorem lb_many {own is test elt xs} : lb G C fl ρ own (.many is) test elt (.tup xs) st = match setSlots (wipeD ρ own) is xs with
          | some ρ' => (evT G C fl ρ' test st).bind fun b st => if b = true then (evE G C fl ρ' elt st).bind fun d st => .ok (some d) st else .ok none st
          | none => .bad := rfl
@[simp] theorem e_non : evE G C fl ρ .non st = .ok .non st := by first | (rw [evE]; done) | (rw [evE]; rfl)
@[simp] theorem e_bool {b} : evE G C fl ρ (.bool b) st = .ok (.bl b) st := by first | (rw [evE]; done) | (rw [evE]; rfl)
@[simp] theorem e_int {i} : evE G C fl ρ (.int i) st = .ok (.int i) st := by first | (rw [evE]; done) | (rw [evE]; rfl)
@[simp] theorem e_str {i} : evE G C fl ρ (.str i) st = .ok (.str i) st := by first | (rw [evE]; done) | (rw [evE]; rfl)
@[simp] theorem e_var {i} : evE G C fl ρ (.var i) st = match ρ[i]? with
    | some (some d) => .ok d st
    | _ => .bad := by first | (rw [evE]; done) | (rw [evE]; rfl)
@[simp] theorem e_gf {i} : evE G C fl ρ (.gf i) st = .ok (.fn i) st := by first | (rw [evE]; done) | (rw [evE]; rfl)
@[simp] theorem e_gc {i} : evE G C fl ρ (.gc i) st = match G.cons[i]? with
    | some p => .ok p.2 st
    | none => .bad := by first | (rw [evE]; done) | (rw [evE]; rfl)
@[simp] theorem e_tyE {n} : evE G C fl ρ (.tyE n) st = .ok (.ty n) st := by rw [evE]
@[simp] theorem e_bin {op a b} : evE G C fl ρ (.bin op a b) st = (evE G C fl ρ a st).bind fun x st => (evE G C fl ρ b st).bind fun y st => lift (binD st op x y) st := by first | (rw [evE]; done) | (rw [evE]; rfl)
@[simp] theorem e_neg {a} : evE G C fl ρ (.neg a) st = (evE G C fl ρ a st).bind fun x st => match x with
    | .int i => .ok (.int (-i)) st
    | _ => .bad := by first | (rw [evE]; done) | (rw [evE]; rfl)
@[simp] theorem e_nt {a} : evE G C fl ρ (.nt a) st = (evE G C fl ρ a st).bind fun x st => match x with
    | .bl b => .ok (.bl (!b)) st
    | _ => .bad := by first | (rw [evE]; done) | (rw [evE]; rfl)
@[simp] theorem e_and {a} : evE G C fl ρ (.andE a) st = evAnd G C fl ρ a st := by first | (rw [evE]; done) | (rw [evE]; rfl)
@[simp] theorem e_or {a} : evE G C fl ρ (.orE a) st = evOr G C fl ρ a st := by first | (rw [evE]; done) | (rw [evE]; rfl)
@[simp] theorem e_cmp {op a b} : evE G C fl ρ (.cmp op a b) st = (evE G C fl ρ a st).bind fun x st => (evE G C fl ρ b st).bind fun y st => lift ((cmpD st op x y).map D.bl) st := by first | (rw [evE]; done) | (rw [evE]; rfl)
@[simp] theorem e_chain {op op2 a b c} : evE G C fl ρ (.chain op op2 a b c) st = (evE G C fl ρ a st).bind fun x st => (evE G C fl ρ b st).bind fun y st =>
      match cmpD st op x y with
      | some true => (evE G C fl ρ c st).bind fun z st => lift ((cmpD st op2 y z).map D.bl) st
      | some false => .ok (.bl false) st
      | none => .bad := by first | (rw [evE]; done) | (rw [evE]; rfl)
@[simp] theorem e_isN {a} : evE G C fl ρ (.isN a) st = (evE G C fl ρ a st).bind fun x st => .ok (.bl (isNon x)) st := by first | (rw [evE]; done) | (rw [evE]; rfl)
@[simp] theorem e_notN {a} : evE G C fl ρ (.notN a) st = (evE G C fl ρ a st).bind fun x st => .ok (.bl (!isNon x)) st := by first | (rw [evE]; done) | (rw [evE]; rfl)
@[simp] theorem e_isB {a b} : evE G C fl ρ (.isB a b) st = (evE G C fl ρ a st).bind fun x st => match x with
    | .bl c => .ok (.bl (decide (c = b))) st
    | _ => .bad := by first | (rw [evE]; done) | (rw [evE]; rfl)
@[simp] theorem e_notB {a b} : evE G C fl ρ (.notB a b) st = (evE G C fl ρ a st).bind fun x st => match x with
    | .bl c => .ok (.bl (!decide (c = b))) st
    | _ => .bad := by first | (rw [evE]; done) | (rw [evE]; rfl)
@[simp] theorem e_call {f as} : evE G C fl ρ (.call f as) st = (evEs G C fl ρ as st).bind fun ds st => C f ds st := by first | (rw [evE]; done) | (rw [evE]; rfl)
@[simp] theorem e_callv {i as} : evE G C fl ρ (.callv i as) st = match ρ[i]? with
    | some (some (.fn f)) => (evEs G C fl ρ as st).bind fun ds st => if (G.fns[f]?).map (·.np) = some ds.length then C f ds st else .bad
    | _ => .bad := by first | (rw [evE]; done) | (rw [evE]; rfl)
@[simp] theorem e_bi {n as} : evE G C fl ρ (.bi n as) st = (evEs G C fl ρ as st).bind fun ds st => lift (biD st n ds) st := by first | (rw [evE]; done) | (rw [evE]; rfl)
@[simp] theorem e_listR1 {a} : evE G C fl ρ (.listR (.rng1 a)) st = (evI G C fl ρ (.rng1 a) st).bind fun xs st => if xs.length ≤ SZ then .ok (.lst xs) st else .bad := by rw [evE] <;> first | rfl | (intros; rename_i h; cases h)
@[simp] theorem e_listR2 {a b} : evE G C fl ρ (.listR (.rng2 a b)) st = (evI G C fl ρ (.rng2 a b) st).bind fun xs st => if xs.length ≤ SZ then .ok (.lst xs) st else .bad := by rw [evE] <;> first | rfl | (intros; rename_i h; cases h)
@[simp] theorem e_bm {m o as} : evE G C fl ρ (.bm m o as) st = (evE G C fl ρ o st).bind fun x st => match recvT m (view st x) with
    | none => .bad
    | some T => (evEs G C fl ρ as st).bind fun ds st => if recvT m (view st x) = some T then bmD fl m x ds st else .bad := by first | (rw [evE]; done) | (rw [evE]; rfl)
@[simp] theorem e_idx {o i} : evE G C fl ρ (.idx o i) st = (evE G C fl ρ o st).bind fun x st => (evE G C fl ρ i st).bind fun y st => lift (idxD st x y) st := by first | (rw [evE]; done) | (rw [evE]; rfl)
@[simp] theorem e_slc {o lo hi} : evE G C fl ρ (.slc o lo hi) st = (evE G C fl ρ o st).bind fun x st => (evEs G C fl ρ lo st).bind fun l st => match optI l with
    | none => .bad
    | some l => (evEs G C fl ρ hi st).bind fun h st => match optI h with
      | none => .bad
      | some h => lift (slcD st x l h) st := by first | (rw [evE]; done) | (rw [evE]; rfl)
@[simp] theorem e_tupE {as} : evE G C fl ρ (.tupE as) st = (evEs G C fl ρ as st).bind fun ds st => .ok (.tup ds) st := by first | (rw [evE]; done) | (rw [evE]; rfl)
@[simp] theorem e_lstE {as} : evE G C fl ρ (.lstE as) st = (evEs G C fl ρ as st).bind fun ds st => .ok (.lst ds) st := by first | (rw [evE]; done) | (rw [evE]; rfl)
@[simp] theorem e_dicE {ps} : evE G C fl ρ (.dicE ps) st = (evPs G C fl ρ ps st).noX.bind fun kvs st => .ok (.dk (kvs.foldl (fun a p => dput a p.1 p.2) [])) st := by first | (rw [evE]; done) | (rw [evE]; rfl)
@[simp] theorem e_dic0 {t} : evE G C fl ρ (.dic0 t) st = .ok (if t then .dt [] else .dk []) st := by first | (rw [evE]; done) | (rw [evE]; rfl)
theorem e_lcA {elt tg src test own} (h : ∀ st x, srcRes src st x = some x) (h2 : ∀ xs, srcIts src xs = xs) (h3 : ∀ xs st, srcEnd src xs st = true) : evE G C fl ρ (.lc elt tg src test own) st = (evI G C fl ρ src st).bind fun xs st =>
      if xs.length ≤ SZ then (lcGo (lb G C fl ρ own tg test elt) xs st).noX.bind fun ds st => .ok (.lst ds) st else .bad := by
  rw [evE]
  simp only [h, h2, h3, if_true]
  rfl
@[simp] theorem e_lc1 {elt tg a test own} : evE G C fl ρ (.lc elt tg (.rng1 a) test own) st = (evI G C fl ρ (.rng1 a) st).bind fun xs st =>
      if xs.length ≤ SZ then (lcGo (lb G C fl ρ own tg test elt) xs st).noX.bind fun ds st => .ok (.lst ds) st else .bad := e_lcA (fun _ _ => rfl) (fun _ => rfl) (fun _ _ => rfl)
@[simp] theorem e_lc2 {elt tg a c test own} : evE G C fl ρ (.lc elt tg (.rng2 a c) test own) st = (evI G C fl ρ (.rng2 a c) st).bind fun xs st =>
      if xs.length ≤ SZ then (lcGo (lb G C fl ρ own tg test elt) xs st).noX.bind fun ds st => .ok (.lst ds) st else .bad := e_lcA (fun _ _ => rfl) (fun _ => rfl) (fun _ _ => rfl)
@[simp] theorem e_lc3 {elt tg a test own} : evE G C fl ρ (.lc elt tg (.seq a) test own) st = (evI G C fl ρ (.seq a) st).bind fun xs st =>
      if xs.length ≤ SZ then (lcGo (lb G C fl ρ own tg test elt) xs st).noX.bind fun ds st => .ok (.lst ds) st else .bad := e_lcA (fun _ _ => rfl) (fun _ => rfl) (fun _ _ => rfl)
@[simp] theorem e_lc5 {elt tg a c d test own} : evE G C fl ρ (.lc elt tg (.rng3 a c d) test own) st = (evI G C fl ρ (.rng3 a c d) st).bind fun xs st =>
      if xs.length ≤ SZ then (lcGo (lb G C fl ρ own tg test elt) xs st).noX.bind fun ds st => .ok (.lst ds) st else .bad := e_lcA (fun _ _ => rfl) (fun _ => rfl) (fun _ _ => rfl)
@[simp] theorem e_lc4 {elt tg a test own} : evE G C fl ρ (.lc elt tg (.rev a) test own) st = (evI G C fl ρ (.rev a) st).bind fun xs st =>
      if xs.length ≤ SZ then (lcGo (lb G C fl ρ own tg test elt) xs st).noX.bind fun ds st => .ok (.lst ds) st else .bad := e_lcA (fun _ _ => rfl) (fun _ => rfl) (fun _ _ => rfl)
/-- a comprehension's turn over a cell -/
noncomputable def lbC (G : Prog) (C : Nat → List D → Sto → Out D) (fl : Nat) (ρ : Env) (own : List Nat) (tg : Tg) (test : Exs) (elt : Ex) : D → Sto → Out (Option D) := fun x st => match itmD st x with
  | some x => lb G C fl ρ own tg test elt x st
  | none => .bad
theorem e_lcC {elt tg a test own} : evE G C fl ρ (.lc elt tg (.cel a) test own) st = (evI G C fl ρ (.cel a) st).bind fun xs st =>
      if xs.length ≤ SZ then (lcGo (lbC G C fl ρ own tg test elt) xs.tail st).noX.bind fun ds st' => if srcEnd (.cel a) xs st' = true then .ok (.lst ds) st' else .bad else .bad := by rw [evE]; rfl
theorem ei_cel {a} : evI G C fl ρ (.cel a) st = (evE G C fl ρ a st).bind fun x st => match x with
    | .ref n => (match st[n]? with
      | some (.lst ys) => .ok (.tup [.ref n, .int (ys.length : Nat)] :: celIt n ys.length) st
      | _ => .bad)
    | _ => .bad := by first | (rw [evI]; done) | (rw [evI]; rfl)
@[simp] theorem e_box {a} : evE G C fl ρ (.box a) st = (evE G C fl ρ a st).bind fun d st => if isC d = true then .ok (.ref st.length) (st ++ [d]) else .bad := by first | (rw [evE]; done) | (rw [evE]; rfl)
@[simp] theorem es_nil : evEs G C fl ρ .nil st = .ok [] st := by first | (rw [evEs]; done) | (rw [evEs]; rfl)
@[simp] theorem es_cons {a r} : evEs G C fl ρ (.cons a r) st = (evE G C fl ρ a st).bind fun x st => (evEs G C fl ρ r st).bind fun xs st => .ok (x :: xs) st := by first | (rw [evEs]; done) | (rw [evEs]; rfl)
@[simp] theorem eps_nil : evPs G C fl ρ .nil st = .ok [] st := by first | (rw [evPs]; done) | (rw [evPs]; rfl)
@[simp] theorem eps_cons {k v r} : evPs G C fl ρ (.cons k v r) st = (evE G C fl ρ k st).bind fun x st => (evE G C fl ρ v st).bind fun d st => match keyD x with
    | some key => (evPs G C fl ρ r st).bind fun ps st => .ok ((key, d) :: ps) st
    | none => .bad := by first | (rw [evPs]; done) | (rw [evPs]; rfl)
@[simp] theorem et_nil : evT G C fl ρ .nil st = .ok true st := by first | (rw [evT]; done) | (rw [evT]; rfl)
@[simp] theorem et_cons {a r} : evT G C fl ρ (.cons a r) st = (evE G C fl ρ a st).bind fun x st => match x with
    | .bl b => .ok b st
    | _ => .bad := by first | (rw [evT]; done) | (rw [evT]; rfl)
@[simp] theorem ea_one {a} : evAnd G C fl ρ (.cons a .nil) st = evE G C fl ρ a st := by first | (rw [evAnd]; done) | (rw [evAnd]; rfl)
@[simp] theorem ea_cons {a b r} : evAnd G C fl ρ (.cons a (.cons b r)) st = (evE G C fl ρ a st).bind fun x st => match x with
    | .bl true => evAnd G C fl ρ (.cons b r) st
    | .bl false => .ok (.bl false) st
    | _ => .bad := by rw [evAnd] <;> first | rfl | (intro h; cases h)
@[simp] theorem eo_one {a} : evOr G C fl ρ (.cons a .nil) st = evE G C fl ρ a st := by first | (rw [evOr]; done) | (rw [evOr]; rfl)
@[simp] theorem eo_cons {a b r} : evOr G C fl ρ (.cons a (.cons b r)) st = (evE G C fl ρ a st).bind fun x st => match x with
    | .bl true => .ok (.bl true) st
    | .bl false => evOr G C fl ρ (.cons b r) st
    | _ => .bad := by rw [evOr] <;> first | rfl | (intro h; cases h)
@[simp] theorem ei_rng1 {a} : evI G C fl ρ (.rng1 a) st = (evE G C fl ρ a st).bind fun x st => match x with
    | .int n => if small62 n = true then .ok (rng 0 n) st else .bad
    | _ => .bad := by first | (rw [evI]; done) | (rw [evI]; rfl)
@[simp] theorem ei_rng2 {a b} : evI G C fl ρ (.rng2 a b) st = (evE G C fl ρ a st).bind fun x st => (evE G C fl ρ b st).bind fun y st => match x, y with
    | .int i, .int j => if small62 i = true ∧ small62 j = true then .ok (rng i j) st else .bad
    | _, _ => .bad := by first | (rw [evI]; done) | (rw [evI]; rfl)
@[simp] theorem ei_seq {a} : evI G C fl ρ (.seq a) st = (evE G C fl ρ a st).bind fun x st => match x with
    | .lst xs => .ok xs st
    | .tup xs => .ok xs st
    | .fz xs => .ok xs st
    | .tk xs => .ok xs st
    | .str x => .ok (chars x) st
    | _ => .bad := by first | (rw [evI]; done) | (rw [evI]; rfl)
@[simp] theorem ei_rng3 {a b c} : evI G C fl ρ (.rng3 a b c) st = (evE G C fl ρ a st).bind fun x st => (evE G C fl ρ b st).bind fun y st => (evE G C fl ρ c st).bind fun z st => match x, y, z with
    | .int i, .int j, .int k => if 0 < k ∧ k < 1073741824 ∧ Builtin.Range.small i j k = true then .ok (rngS i k (Builtin.Range.rangeSize i j k).toNat) st else .bad
    | _, _, _ => .bad := by first | (rw [evI]; done) | (rw [evI]; rfl)
@[simp] theorem e_bits {a} : evE G C fl ρ (.bits a) st = (evE G C fl ρ a st).bind fun x st => match x with
    | .int i => .ok (.int (Builtin.Int.intBits i : Nat)) st
    | _ => .bad := by first | (rw [evE]; done) | (rw [evE]; rfl)
@[simp] theorem e_dix {c i} : evE G C fl ρ (.dix c i) st = (evE G C fl ρ i st).bind fun x st => match x with
    | .str z => match G.dics[c]? with
      | some p => match p.2.lookup z with
        | some d => .ok d st
        | none => .bad
      | none => .bad
    | _ => .bad := by first | (rw [evE]; done) | (rw [evE]; rfl)
@[simp] theorem e_orV {a b} : evE G C fl ρ (.orV a b) st = (evE G C fl ρ a st).bind fun x st => match trD x with
    | some true => .ok x st
    | some false => evE G C fl ρ b st
    | none => .bad := by first | (rw [evE]; done) | (rw [evE]; rfl)
@[simp] theorem tr_non : trD .non = some false := rfl
@[simp] theorem tr_bl {b : Bool} : trD (.bl b) = some b := rfl
@[simp] theorem tr_nil : trD (.tup []) = some false := rfl
@[simp] theorem tr_cons {x : D} {r : List D} : trD (.tup (x :: r)) = some true := rfl
@[simp] theorem recv_join {x : Str} : recvT .join (.str x) = some "str" := rfl
theorem bm_join {a : Str} {v : D} {ys : List Str} (h : textsOf st v = some ys) (hl : (ys.map (·.length)).sum + ys.length * a.length ≤ SZ) : bmD fl .join (.str a) [v] st = .ok (.str (Str.join a ys)) st := by
  unfold bmD
  dsimp only
  rw [h]
  dsimp only
  rw [if_pos hl]
/-- a dict comprehension's turn -/
noncomputable def db (G : Prog) (C : Nat → List D → Sto → Out D) (fl : Nat) (ρ : Env) (own : List Nat) (tg : Tg) (test : Exs) (k v : Ex) : D → Sto → Out (Option (Key × D)) := fun x st => match asg (wipeD ρ own) tg x with
            | some ρ' => (evT G C fl ρ' test st).bind fun b st => if b = true then (evE G C fl ρ' k st).bind fun kd st => (evE G C fl ρ' v st).bind fun d st => (match keyD kd with
              | some key => .ok (some (key, d)) st
              | none => .bad) else .ok none st
            | none => .bad
theorem e_dcA {k v tg src test own} (h : ∀ st x, srcRes src st x = some x) (h2 : ∀ xs, srcIts src xs = xs) (h3 : ∀ xs st, srcEnd src xs st = true) : evE G C fl ρ (.dc k v tg src test own) st = (evI G C fl ρ src st).bind fun xs st =>
      if xs.length ≤ SZ then (dcGo (db G C fl ρ own tg test k v) xs [] st).noX.bind fun ds st => .ok (.dk ds) st else .bad := by
  rw [evE]
  simp only [h, h2, h3, if_true]
  rfl
@[simp] theorem e_dc1 {k v tg a test own} : evE G C fl ρ (.dc k v tg (.rng1 a) test own) st = (evI G C fl ρ (.rng1 a) st).bind fun xs st =>
      if xs.length ≤ SZ then (dcGo (db G C fl ρ own tg test k v) xs [] st).noX.bind fun ds st => .ok (.dk ds) st else .bad := e_dcA (fun _ _ => rfl) (fun _ => rfl) (fun _ _ => rfl)
@[simp] theorem e_dc3 {k v tg a test own} : evE G C fl ρ (.dc k v tg (.seq a) test own) st = (evI G C fl ρ (.seq a) st).bind fun xs st =>
      if xs.length ≤ SZ then (dcGo (db G C fl ρ own tg test k v) xs [] st).noX.bind fun ds st => .ok (.dk ds) st else .bad := e_dcA (fun _ _ => rfl) (fun _ => rfl) (fun _ _ => rfl)
@[simp] theorem e_sset {a} : evE G C fl ρ (.sset a) st = (evE G C fl ρ a st).bind fun x st => match textsOf st x with
    | some ss => if (usort ss).length < 4095 then .ok (.lst ((usort ss).map .str)) st else .bad
    | none => .bad := by first | (rw [evE]; done) | (rw [evE]; rfl)
@[simp] theorem ei_rev {a} : evI G C fl ρ (.rev a) st = (evE G C fl ρ a st).bind fun x st => match x with
    | .lst xs => .ok xs.reverse st
    | .tup xs => .ok xs.reverse st
    | .fz xs => .ok xs.reverse st
    | .tk xs => .ok xs.reverse st
    | _ => .bad := by first | (rw [evI]; done) | (rw [evI]; rfl)
variable {a : Sm} {b c : Sms} {e : Ex}
@[simp] theorem s_set {i} : evS G C fl (.set i e) ρ st = (evE G C fl ρ e st).thenS ρ fun d st => .next (ρ.set i (some d)) st := by first | (rw [evS]; done) | (rw [evS]; rfl)
@[simp] theorem s_sets {is} : evS G C fl (.sets is e) ρ st = (evE G C fl ρ e st).thenS ρ fun d st => match asg ρ (.many is) d with
    | some ρ' => .next ρ' st
    | none => .bad := by first | (rw [evS]; done) | (rw [evS]; rfl)
@[simp] theorem s_put {o i} : evS G C fl (.put o i e) ρ st = (evE G C fl ρ e st).thenS ρ fun v st => (evE G C fl ρ o st).thenS ρ fun x st => (evE G C fl ρ i st).thenS ρ fun y st => match putD fl x y v st with
    | some st' => .next ρ st'
    | none => .bad := by first | (rw [evS]; done) | (rw [evS]; rfl)
@[simp] theorem s_expr : evS G C fl (.expr e) ρ st = (evE G C fl ρ e st).thenS ρ fun _ st => .next ρ st := by first | (rw [evS]; done) | (rw [evS]; rfl)
@[simp] theorem s_doc : evS G C fl .doc ρ st = .next ρ st := by first | (rw [evS]; done) | (rw [evS]; rfl)
@[simp] theorem s_ret : evS G C fl (.ret e) ρ st = (evE G C fl ρ e st).thenS ρ fun d st => .ret d st := by first | (rw [evS]; done) | (rw [evS]; rfl)
@[simp] theorem s_retN : evS G C fl .retN ρ st = .ret .non st := by first | (rw [evS]; done) | (rw [evS]; rfl)
@[simp] theorem s_if : evS G C fl (.ifS e b c) ρ st = (evE G C fl ρ e st).thenS ρ fun x st => match x with
    | .bl true => evSs G C fl b ρ st
    | .bl false => evSs G C fl c ρ st
    | _ => .bad := by first | (rw [evS]; done) | (rw [evS]; rfl)
theorem chk_true {r : OutS} : r.chk (fun _ => true) = r := by cases r <;> rfl
theorem s_forA {tg src} (h : ∀ st x, srcRes src st x = some x) (h2 : ∀ xs, srcIts src xs = xs) (h3 : ∀ xs st, srcEnd src xs st = true) : evS G C fl (.forS tg src b) ρ st = (evI G C fl ρ src st).thenS ρ fun xs st => forGo (fb G C fl tg b) xs ρ st := by
  rw [evS]
  have e3 : ∀ xs, srcEnd src xs = fun _ => true := fun xs => funext fun st => h3 xs st
  simp only [h, h2, e3, chk_true]
  rfl
@[simp] theorem s_for1 {tg a} : evS G C fl (.forS tg (.rng1 a) b) ρ st = (evI G C fl ρ (.rng1 a) st).thenS ρ fun xs st => forGo (fb G C fl tg b) xs ρ st := s_forA (fun _ _ => rfl) (fun _ => rfl) (fun _ _ => rfl)
@[simp] theorem s_for2 {tg a c} : evS G C fl (.forS tg (.rng2 a c) b) ρ st = (evI G C fl ρ (.rng2 a c) st).thenS ρ fun xs st => forGo (fb G C fl tg b) xs ρ st := s_forA (fun _ _ => rfl) (fun _ => rfl) (fun _ _ => rfl)
@[simp] theorem s_for3 {tg a} : evS G C fl (.forS tg (.seq a) b) ρ st = (evI G C fl ρ (.seq a) st).thenS ρ fun xs st => forGo (fb G C fl tg b) xs ρ st := s_forA (fun _ _ => rfl) (fun _ => rfl) (fun _ _ => rfl)
@[simp] theorem s_for5 {tg a c d} : evS G C fl (.forS tg (.rng3 a c d) b) ρ st = (evI G C fl ρ (.rng3 a c d) st).thenS ρ fun xs st => forGo (fb G C fl tg b) xs ρ st := s_forA (fun _ _ => rfl) (fun _ => rfl) (fun _ _ => rfl)
@[simp] theorem s_for4 {tg a} : evS G C fl (.forS tg (.rev a) b) ρ st = (evI G C fl ρ (.rev a) st).thenS ρ fun xs st => forGo (fb G C fl tg b) xs ρ st := s_forA (fun _ _ => rfl) (fun _ => rfl) (fun _ _ => rfl)
/-- a turn over a cell -/
noncomputable def fbC (G : Prog) (C : Nat → List D → Sto → Out D) (fl : Nat) (tg : Tg) (b : Sms) : D → Env → Sto → OutS := fun x ρ st => match itmD st x with
  | some x => fb G C fl tg b x ρ st
  | none => .bad
theorem s_forC {tg a} : evS G C fl (.forS tg (.cel a) b) ρ st = (evI G C fl ρ (.cel a) st).thenS ρ fun xs st => (forGo (fbC G C fl tg b) xs.tail ρ st).chk (srcEnd (.cel a) xs) := by rw [evS]; rfl
@[simp] theorem s_whl : evS G C fl (.whl e b) ρ st = whlE (fun ρ st => evE G C fl ρ e st) (fun ρ st => evSs G C fl b ρ st) ρ st := by first | (rw [evS]; done) | (rw [evS]; rfl)
@[simp] theorem s_brk : evS G C fl .brk ρ st = .brk ρ st := by first | (rw [evS]; done) | (rw [evS]; rfl)
@[simp] theorem s_cont : evS G C fl .cont ρ st = .cont ρ st := by first | (rw [evS]; done) | (rw [evS]; rfl)
@[simp] theorem s_raise {c m} : evS G C fl (.raise c m) ρ st = .exc c [] ρ st := by rw [evS]
@[simp] theorem s_try {hs} : evS G C fl (.tryS b hs) ρ st = match evSs G C fl b ρ st with
    | .exc c fs ρ' st' => evH G hs c fs ρ' st'
    | r => r := by first | (rw [evS]; done) | (rw [evS]; rfl)
@[simp] theorem ss_nil : evSs G C fl .nil ρ st = .next ρ st := by first | (rw [evSs]; done) | (rw [evSs]; rfl)
@[simp] theorem ss_cons : evSs G C fl (.cons a b) ρ st = (evS G C fl a ρ st).seq fun ρ st => evSs G C fl b ρ st := by first | (rw [evSs]; done) | (rw [evSs]; rfl)
end

/-! ### a call by the def's body -/
theorem run_pop {G : Prog} {k fl f : Nat} {ds : List D} {st : Sto} {F : Fn} {d d' : D} {st' : Sto} (hF : G.fns[f]? = some F) (hp : F.pop = true) (hn : ds.length = F.np)
    (h : evSs G (run G k st.length) st.length F.body (ds.map some ++ List.replicate (F.N.length - F.np) none) st = .ret d (st ++ st')) (hu : unbox st.length (st ++ st') d = some d') : run G (k + 1) fl f ds st = .ok d' st := by
  unfold run
  rw [hF]
  dsimp only
  rw [if_pos hn]
  simp only [hp, if_true]
  rw [h]
  dsimp only [fin]
  rw [if_pos rfl, hu]
  simp
theorem run_keep {G : Prog} {k fl f : Nat} {ds : List D} {st : Sto} {F : Fn} {d : D} {st' : Sto} (hF : G.fns[f]? = some F) (hp : F.pop = false) (hn : ds.length = F.np)
    (h : evSs G (run G k fl) fl F.body (ds.map some ++ List.replicate (F.N.length - F.np) none) st = .ret d st') : run G (k + 1) fl f ds st = .ok d st' := by
  unfold run
  rw [hF]
  dsimp only
  rw [if_pos hn]
  simp only [hp, Bool.false_eq_true, if_false]
  rw [h]
  rfl
/-- a call whose frame leaves the store longer, or changed in a cell -/
theorem run_popS {G : Prog} {k fl f : Nat} {ds : List D} {st : Sto} {F : Fn} {d d' : D} {st' : Sto} (hF : G.fns[f]? = some F) (hp : F.pop = true) (hn : ds.length = F.np)
    (h : evSs G (run G k st.length) st.length F.body (ds.map some ++ List.replicate (F.N.length - F.np) none) st = .ret d st') (hu : unbox st.length st' d = some d') : run G (k + 1) fl f ds st = .ok d' (st'.take st.length) := by
  unfold run
  rw [hF]
  dsimp only
  rw [if_pos hn]
  simp only [hp, if_true]
  rw [h]
  dsimp only [fin]
  rw [if_pos rfl, hu]

/-- a call that raises -/
theorem run_exc {G : Prog} {k fl f : Nat} {ds : List D} {st : Sto} {F : Fn} {c : Nat} {fs : List (Nat × D)} {ρ' : Env} {st' : Sto} (hF : G.fns[f]? = some F) (hp : F.pop = true) (hn : ds.length = F.np)
    (h : evSs G (run G k st.length) st.length F.body (ds.map some ++ List.replicate (F.N.length - F.np) none) st = .exc c fs ρ' st') : run G (k + 1) fl f ds st = .exc c fs (st'.take st.length) := by
  unfold run
  rw [hF]
  dsimp only
  rw [if_pos hn]
  simp only [hp, if_true]
  rw [h]

/-! ### loops -/
theorem forGo_inv {b : D → Env → Sto → OutS} {xs : List D} (I : Nat → Env → Sto → Prop) {ρ : Env} {st : Sto} (h0 : I 0 ρ st)
    (h : ∀ i x, xs[i]? = some x → ∀ ρ st, I i ρ st → ∃ ρ' st', (b x ρ st = .next ρ' st' ∨ b x ρ st = .cont ρ' st') ∧ I (i + 1) ρ' st') : ∃ ρ' st', forGo b xs ρ st = .next ρ' st' ∧ I xs.length ρ' st' := by
  have gen : ∀ (ys : List D) (i : Nat) (ρ : Env) (st : Sto), xs.drop i = ys → i ≤ xs.length → I i ρ st → ∃ ρ' st', forGo b ys ρ st = .next ρ' st' ∧ I xs.length ρ' st' := by
    intro ys
    induction ys with
    | nil =>
      intro i ρ st e hi hI
      have := List.drop_eq_nil_iff.mp e
      have e2 : i = xs.length := by omega
      subst e2
      exact ⟨ρ, st, rfl, hI⟩
    | cons y ys ih =>
      intro i ρ st e hi hI
      have hx : xs[i]? = some y := by
        have : (xs.drop i)[0]? = some y := by rw [e]; rfl
        rwa [List.getElem?_drop, Nat.add_zero] at this
      have hlt : i < xs.length := (List.getElem?_eq_some_iff.mp hx).1
      obtain ⟨ρ', st', e1, hI'⟩ := h i y hx ρ st hI
      have e3 : xs.drop (i + 1) = ys := by
        have := congrArg List.tail e
        rwa [List.tail_drop] at this
      obtain ⟨ρ2, st2, e2, hI2⟩ := ih (i + 1) ρ' st' e3 hlt hI'
      refine ⟨ρ2, st2, ?_, hI2⟩
      rw [forGo]
      rcases e1 with e1 | e1
      · rw [e1, OutS.turn_next, e2]
      · rw [e1, OutS.turn_cont, e2]
  exact gen xs 0 ρ st (by simp) (Nat.zero_le _) h0
theorem lcGo_inv {f : D → Sto → Out (Option D)} {xs : List D} (I : Nat → List D → Sto → Prop) {st : Sto} (h0 : I 0 [] st)
    (h : ∀ i x, xs[i]? = some x → ∀ ds st, I i ds st → ∃ o st', f x st = .ok o st' ∧ I (i + 1) (ds ++ o.toList) st') : ∃ ds st', lcGo f xs st = .ok ds st' ∧ I xs.length ds st' := by
  have gen : ∀ (ys : List D) (i : Nat) (ds : List D) (st : Sto), xs.drop i = ys → i ≤ xs.length → I i ds st → ∃ es st', lcGo f ys st = .ok es st' ∧ I xs.length (ds ++ es) st' := by
    intro ys
    induction ys with
    | nil =>
      intro i ds st e hi hI
      have := List.drop_eq_nil_iff.mp e
      have e2 : i = xs.length := by omega
      subst e2
      exact ⟨[], st, rfl, by rw [List.append_nil]; exact hI⟩
    | cons y ys ih =>
      intro i ds st e hi hI
      have hx : xs[i]? = some y := by
        have : (xs.drop i)[0]? = some y := by rw [e]; rfl
        rwa [List.getElem?_drop, Nat.add_zero] at this
      have hlt : i < xs.length := (List.getElem?_eq_some_iff.mp hx).1
      obtain ⟨o, st', e1, hI'⟩ := h i y hx ds st hI
      have e3 : xs.drop (i + 1) = ys := by
        have := congrArg List.tail e
        rwa [List.tail_drop] at this
      obtain ⟨es, st2, e2, hI2⟩ := ih (i + 1) _ st' e3 hlt hI'
      refine ⟨o.toList ++ es, st2, ?_, by rw [← List.append_assoc]; exact hI2⟩
      rw [lcGo, e1, Out.bind_ok, e2, Out.bind_ok]
      cases o <;> rfl
  obtain ⟨ds, st', e, hI⟩ := gen xs 0 [] st (by simp) (Nat.zero_le _) h0
  exact ⟨ds, st', e, by simpa using hI⟩
/-- a comprehension that leaves the store -/
theorem lcGo_pure {f : D → Sto → Out (Option D)} {g : D → Option D} {xs : List D} {st : Sto} (h : ∀ x ∈ xs, f x st = .ok (g x) st) : lcGo f xs st = .ok (xs.filterMap g) st := by
  induction xs with
  | nil => rfl
  | cons x xs ih =>
    rw [lcGo, h x List.mem_cons_self, Out.bind_ok, ih fun y hy => h y (List.mem_cons_of_mem _ hy), Out.bind_ok, List.filterMap_cons]
    cases g x <;> rfl

theorem mem_rng {a b : Int} {x : D} (h : x ∈ rng a b) : ∃ i : Int, x = .int i ∧ a ≤ i ∧ i < b := by
  obtain ⟨i, hi⟩ := List.getElem?_of_mem h
  obtain ⟨h2, e⟩ := rng_get hi
  exact ⟨_, e, by omega, by omega⟩
theorem small62_of {i : Int} (h : -1000000000 ≤ i) (h2 : i ≤ 1000000000) : small62 i = true := by
  unfold small62
  rw [decide_eq_true_eq]
  omega
theorem mulOk_of {i j : Int} (h : -(2 ^ 64) < i ∧ i < 2 ^ 64 ∨ -(2 ^ 64) < j ∧ j < 2 ^ 64) : mulOk i j = true := by
  unfold mulOk
  rw [Bool.or_eq_true, Bool.or_eq_true]
  rcases h with h | h
  · exact .inl (.inl (decide_eq_true (by omega)))
  · exact .inl (.inr (decide_eq_true (by omega)))
@[simp] theorem rng_len {a b : Int} : (rng a b).length = (b - a).toNat := rng_length a b
@[simp] theorem view_ref {st : Sto} {n : Nat} : view st (.ref n) = (st[n]?).getD .non := rfl
@[simp] theorem view_int {st : Sto} {i : Int} : view st (.int i) = .int i := rfl
@[simp] theorem view_bl {st : Sto} {i : Bool} : view st (.bl i) = .bl i := rfl
@[simp] theorem view_lst {st : Sto} {xs} : view st (.lst xs) = .lst xs := rfl
@[simp] theorem view_tup {st : Sto} {xs} : view st (.tup xs) = .tup xs := rfl
@[simp] theorem view_fz {st : Sto} {xs} : view st (.fz xs) = .fz xs := rfl
@[simp] theorem view_tk {st : Sto} {xs} : view st (.tk xs) = .tk xs := rfl
@[simp] theorem view_str {st : Sto} {x} : view st (.str x) = .str x := rfl
@[simp] theorem view_dk {st : Sto} {x} : view st (.dk x) = .dk x := rfl
@[simp] theorem view_non {st : Sto} : view st .non = .non := rfl
section
variable {st : Sto} {i j : Int} {xs ys : List D} {d x y : D}
@[simp] theorem bin_add : binD st .add (.int i) (.int j) = some (.int (i + j)) := rfl
@[simp] theorem bin_sub : binD st .sub (.int i) (.int j) = some (.int (i - j)) := rfl
@[simp] theorem bin_mul : binD st .mul (.int i) (.int j) = if mulOk i j then some (.int (i * j)) else none := rfl
@[simp] theorem bin_mod : binD st .mod (.int i) (.int j) = if 0 < j then some (.int (i % j)) else none := rfl
@[simp] theorem bin_fdiv : binD st .fdiv (.int i) (.int j) = if divOk j then some (.int (i / j)) else none := rfl
@[simp] theorem bin_pow : binD st .pow (.int i) (.int j) = if 0 ≤ j ∧ j ≤ 1000000 ∧ i.natAbs < 2 ^ 64 then some (.int (i ^ j.toNat)) else none := rfl
@[simp] theorem bin_addL : binD st .add (.lst xs) (.lst ys) = if xs.length + ys.length ≤ SZ then some (.lst (xs ++ ys)) else none := rfl
@[simp] theorem bin_addT : binD st .add (.tup xs) (.tup ys) = if xs.length + ys.length ≤ SZ then some (.tup (xs ++ ys)) else none := rfl
@[simp] theorem bin_mulL : binD st .mul (.lst xs) (.int i) = if xs.length * i.toNat ≤ SZ ∧ i.natAbs ≤ SZ then some (.lst (List.replicate i.toNat xs).flatten) else none := rfl
@[simp] theorem bin_mulT : binD st .mul (.tup xs) (.int i) = if xs.length ≤ 1000 ∧ 1 ≤ i ∧ i ≤ 1000 ∧ xs ≠ [] then some (.tup (List.replicate i.toNat xs).flatten) else none := rfl
@[simp] theorem cmp_eq : cmpD st .eq x y = eqD st x y := rfl
@[simp] theorem cmp_ne : cmpD st .ne x y = (eqD st x y).map (!·) := rfl
@[simp] theorem cmp_mem : cmpD st .mem x y = memD st x y := rfl
@[simp] theorem cmp_nmem : cmpD st .nmem x y = (memD st x y).map (!·) := rfl
@[simp] theorem cmp_lt : cmpD st .lt (.int i) (.int j) = some (decide (i < j)) := rfl
@[simp] theorem cmp_le : cmpD st .le (.int i) (.int j) = some (decide (i ≤ j)) := rfl
@[simp] theorem cmp_gt : cmpD st .gt (.int i) (.int j) = some (decide (j < i)) := rfl
@[simp] theorem cmp_ge : cmpD st .ge (.int i) (.int j) = some (decide (j ≤ i)) := rfl
@[simp] theorem bi_len : biD st .len [d] = match view st d with
    | .lst xs => some (.int xs.length)
    | .tup xs => some (.int xs.length)
    | .fz xs => some (.int xs.length)
    | .tk xs => some (.int xs.length)
    | .str x => if x.length ≤ SZ then some (.int x.length) else none
    | _ => none := rfl
@[simp] theorem bi_abs : biD st .abs [.int i] = some (.int (if i < 0 then -i else i)) := rfl
@[simp] theorem bi_int : biD st .int [.int i] = some (.int i) := rfl
@[simp] theorem bi_intb {b : Bool} : biD st .int [.bl b] = some (.int (if b = true then 1 else 0)) := rfl
@[simp] theorem bi_tuple : biD st .tuple [d] = match view st d with
    | .lst xs => some (.tup xs)
    | .tup xs => some (.tup xs)
    | _ => none := rfl
@[simp] theorem bi_list : biD st .list [d] = match view st d with
    | .lst xs => some (.lst xs)
    | .tup xs => some (.lst xs)
    | _ => none := rfl
@[simp] theorem bi_all : biD st .all [d] = match view st d with
    | .lst xs => (toBools xs).map fun bs => .bl (bs.all id)
    | _ => none := rfl
@[simp] theorem bi_any : biD st .any [d] = match view st d with
    | .lst xs => (toBools xs).map fun bs => .bl (bs.any id)
    | _ => none := rfl
@[simp] theorem bi_min2 : biD st .min2 [.int i, .int j] = some (.int (if j < i then j else i)) := rfl
@[simp] theorem bi_max2 : biD st .max2 [.int i, .int j] = some (.int (if j > i then j else i)) := rfl
@[simp] theorem bi_min1 : biD st .min1 [d] = match view st d with
    | .lst xs => match toInts xs with
      | some (x :: r) => some (.int (imin x r))
      | some [] => none
      | none => match toStrs xs with
        | some (x :: r) => some (.str (EvSet.smin x r))
        | _ => none
    | _ => none := rfl
@[simp] theorem bi_max1 : biD st .max1 [d] = match view st d with
    | .lst xs => match toInts xs with
      | some (x :: r) => some (.int (imax x r))
      | some [] => none
      | none => match toStrs xs with
        | some (x :: r) => some (.str (EvSet.smax x r))
        | _ => none
    | _ => none := rfl
@[simp] theorem bi_sum : biD st .sum [d] = match view st d with
    | .lst xs => (toInts xs).map fun ns => .int ns.sum
    | .tup xs => (toInts xs).map fun ns => .int ns.sum
    | _ => none := rfl
@[simp] theorem bi_sorted : biD st .sorted [d] = match view st d with
    | .lst xs => match toInts xs with
      | some ns => some (.lst ((isort ns).map .int))
      | none => (toStrs xs).map fun ss => .lst ((tsort ss).map .str)
    | _ => none := rfl
@[simp] theorem bi_isinst {t : String} : biD st .isinst [d, .ty t] = (tyD (view st d)).bind fun n => (kitB n t).map .bl := rfl
@[simp] theorem kb1 : kitB "bool" "bool" = some true := by decide +kernel
@[simp] theorem kb2 : kitB "bool" "int" = some true := by decide +kernel
@[simp] theorem kb3 : kitB "int" "bool" = some false := by decide +kernel
@[simp] theorem kb4 : kitB "int" "int" = some true := by decide +kernel
@[simp] theorem kb5 {t : String} (h : t = "bool" ∨ t = "int" ∨ t = "str" ∨ t = "list" ∨ t = "tuple" ∨ t = "dict") : kitB "NoneType" t = some false := by rcases h with rfl | rfl | rfl | rfl | rfl | rfl <;> decide +kernel
theorem kitB_no {a b : String} (ha : a = "NoneType" ∨ a = "bool" ∨ a = "int" ∨ a = "str" ∨ a = "list" ∨ a = "tuple" ∨ a = "dict") (hb : b = "bool" ∨ b = "int" ∨ b = "str" ∨ b = "list" ∨ b = "tuple" ∨ b = "dict") : kitB a b = some (decide (a = b) || (decide (a = "bool") && decide (b = "int"))) := by
  rcases ha with rfl | rfl | rfl | rfl | rfl | rfl | rfl <;> rcases hb with rfl | rfl | rfl | rfl | rfl | rfl <;> decide +kernel
@[simp] theorem recv_append : recvT .append (.lst xs) = some "list" := rfl
@[simp] theorem recv_index : recvT .index (.lst xs) = some "list" := rfl
@[simp] theorem idx_str {x : Str} : idxD st (.str x) (.int i) = if x.length ≤ SZ then (atI x.cps.toList i).map fun c => .str ⟨#[c]⟩ else none := rfl
@[simp] theorem bi_ord {x : Str} : biD st .ord [.str x] = if x.length = 1 then some (.int (x.cps.getD 0 0 : Nat)) else none := rfl
@[simp] theorem bi_str : biD st .str [.int i] = if i.natAbs.log2 < 1920 then some (.str (toString i)) else none := rfl
@[simp] theorem bin_mulS {x : Str} : binD st .mul (.str x) (.int i) = if 2 ≤ i ∧ i ≤ 1000 ∧ 1 ≤ x.length ∧ x.length ≤ 1000 then some (.str (repS x i.toNat)) else none := rfl
@[simp] theorem bin_addS {x y : Str} : binD st .add (.str x) (.str y) = if x.length + y.length ≤ SZ then some (.str (x ++ y)) else none := rfl
@[simp] theorem cmp_ltS {x y : Str} : cmpD st .lt (.str x) (.str y) = some (ltS x y) := rfl
@[simp] theorem cmp_leS {x y : Str} : cmpD st .le (.str x) (.str y) = some (!ltS y x) := rfl
@[simp] theorem cmp_gtS {x y : Str} : cmpD st .gt (.str x) (.str y) = some (ltS y x) := rfl
@[simp] theorem cmp_geS {x y : Str} : cmpD st .ge (.str x) (.str y) = some (!ltS x y) := rfl
@[simp] theorem eqD_str {x y : Str} : eqD st (.str x) (.str y) = some (decide (x = y)) := by
  unfold eqD
  rw [if_pos (by simp [okN, view])]
  simp [view, eqv]
@[simp] theorem recv_extend : recvT .extend (.lst xs) = some "list" := rfl
@[simp] theorem idx_lst : idxD st (.lst xs) (.int i) = atI xs i := rfl
@[simp] theorem idx_tup : idxD st (.tup xs) (.int i) = atI xs i := rfl
@[simp] theorem idx_fz : idxD st (.fz xs) (.int i) = atI xs i := rfl
@[simp] theorem idx_tk : idxD st (.tk xs) (.int i) = atI xs i := rfl
@[simp] theorem idx_ref {n : Nat} : idxD st (.ref n) d = match (st[n]?).getD .non, d with
  | .lst xs, .int i => atI xs i
  | .tup xs, .int i => atI xs i
  | .fz xs, .int i => atI xs i
  | .tk xs, .int i => atI xs i
  | .str z, .int i => if z.length ≤ SZ then (atI z.cps.toList i).map fun c => .str ⟨#[c]⟩ else none
  | .dk kvs, i => (keyD i).bind fun k => dget kvs k
  | .dt kvs, .tup ds => (keysD ds).bind fun k => dget kvs k
  | _, _ => none := by unfold idxD; rfl
@[simp] theorem keyD_int : keyD (.int i) = some (.inl i) := rfl
@[simp] theorem keyD_str {x : Str} : keyD (.str x) = some (.inr x) := rfl
@[simp] theorem isNon_non : isNon .non = true := rfl
@[simp] theorem eqD_bl {a b : Bool} : eqD st (.bl a) (.bl b) = some (a == b) := rfl
@[simp] theorem eqD_int : eqD st (.int i) (.int j) = some (decide (i = j)) := rfl
@[simp] theorem optI_nil : optI [] = some none := rfl
@[simp] theorem optI_one : optI [.int i] = some (some i) := rfl
@[simp] theorem div997 : divOk 997 = true := by decide +kernel
end
theorem bm_append {st : Sto} {fl n : Nat} {xs : List D} {v : D} (e : st[n]? = some (.lst xs)) (h : xs.length < SZ) (hw : wrOk fl n v = true) : bmD fl .append (.ref n) [v] st = .ok .non (st.set n (.lst (xs ++ [v]))) := by
  unfold bmD
  dsimp only
  rw [e]
  dsimp only
  rw [if_pos ⟨h, hw⟩]
theorem atI_of {α : Type} {xs : List α} {i : Int} (h0 : 0 ≤ i) : atI xs i = xs[i.toNat]? := by
  unfold atI ixN
  rw [if_pos h0]
  by_cases h : i < (xs.length : Int)
  · rw [if_pos h]; rfl
  · rw [if_neg h]
    rw [List.getElem?_eq_none (by omega)]
    rfl
end Ev

set_option Elab.async false
set_option linter.all false
set_option maxRecDepth 100000
set_option maxHeartbeats 400000
/-! Ev, part 18: the draws of a law. -/
namespace Ev
open PySem L2

def bInner : Sms :=
  (.cons (.ifS (.cmp .gt (.var 6) (.int 0))
    (.cons (.expr (.bm .append (.var 2) (.cons (.bin .mod (.bi .int (.cons (.var 6) .nil)) (.int 997)) .nil)))
    (.cons (.set 6 (.bin .fdiv (.var 6) (.int 997)))
    .nil))
    .nil)
  .nil)
def bOuter : Sms :=
  (.cons (.set 5 (.bi .abs (.cons (.bi .int (.cons (.idx (.var 0) (.var 4)) .nil)) .nil)))
  (.cons (.set 3 (.bin .mod (.bi .int (.cons (.bin .add (.bin .add (.bin .mul (.var 3) (.int 48271)) (.bin .mod (.var 5) (.int 1000003))) (.var 4)) .nil)) (.int 65537)))
  (.cons (.set 6 (.int 0))
  (.cons (.ifS (.cmp .ge (.var 5) (.bin .pow (.int 10) (.int 18)))
    (.cons (.set 6 (.var 5))
    .nil)
    (.cons (.expr (.bm .append (.var 2) (.cons (.bin .mod (.var 5) (.int 997)) .nil)))
    (.cons (.expr (.bm .append (.var 2) (.cons (.bin .mod (.bin .mod (.bi .int (.cons (.bin .add (.bin .mul (.var 3) (.int 69621)) (.int 5)) .nil)) (.int 65521)) (.int 997)) .nil)))
    .nil)))
  (.cons (.forS (.one 7) (.rng1 (.int 60)) bInner)
  .nil)))))
def bLast : Sms :=
  (.cons (.set 3 (.bin .mod (.bi .int (.cons (.bin .add (.bin .add (.bin .mul (.var 3) (.int 16807)) (.var 4)) (.int 1)) .nil)) (.int 65537)))
  (.cons (.expr (.bm .append (.var 2) (.cons (.bin .mod (.bi .int (.cons (.var 3) .nil)) (.int 997)) .nil)))
  .nil))
def bDraws : Sms :=
  (.cons (.set 2 (.box (.lstE .nil)))
  (.cons (.set 3 (.int 7))
  (.cons (.forS (.one 4) (.rng1 (.bi .len (.cons (.var 0) .nil))) bOuter)
  (.cons (.forS (.one 4) (.rng1 (.var 1)) bLast)
  (.cons (.ret (.slc (.var 2) .nil (.cons (.var 1) .nil)))
  .nil)))))

/-- a list of draws -/
def nats (l : List Nat) : List D := l.map fun n : Nat => D.int (n : Int)
@[simp] theorem nats_len {l : List Nat} : (nats l).length = l.length := by simp [nats]
theorem nats_app {a b : List Nat} : nats (a ++ b) = nats a ++ nats b := by simp [nats]
theorem nats_lo {f : Nat} : ∀ l : List Nat, D.los f (nats l) = true
  | [] => rfl
  | _ :: r => by
    show (_ && D.los f (nats r)) = true
    rw [nats_lo r]; rfl

section
variable {G : Prog} {C : Nat → List D → Sto → Out D}
theorem ints_get {ns : List Int} {i : Nat} (h : i < ns.length) : (ns.map D.int)[i]? = some (.int ns[i]) := by
  rw [List.getElem?_map, List.getElem?_eq_getElem h]; rfl
theorem app_c {pre : Sto} {l : List Nat} {n : Int} (h : 0 ≤ n) (hl : l.length < SZ) : bmD pre.length .append (.ref pre.length) [.int n] (pre ++ [.lst (nats l)]) = .ok .non (pre ++ [.lst (nats (l ++ [n.toNat]))]) := by
  have e : (pre ++ [D.lst (nats l)])[pre.length]? = some (.lst (nats l)) := by simp
  unfold bmD
  dsimp only
  rw [e]
  dsimp only
  have hw : wrOk pre.length pre.length (.int n) = true := by unfold wrOk; simp
  rw [if_pos ⟨by simpa using hl, hw⟩]
  simp [nats, List.set_append_right, Int.toNat_of_nonneg h]
theorem inner_step {ns : List Int} {pre : Sto} {l : List Nat} {a b c d e f : Option D} {r : Int} (h : 0 ≤ r) (hl : l.length < SZ) :
    evSs G C pre.length bInner [a, b, some (.ref pre.length), c, d, e, some (.int r), f] (pre ++ [.lst (nats l)]) =
      if 0 < r then .next [a, b, some (.ref pre.length), c, d, e, some (.int (r / 997)), f] (pre ++ [.lst (nats (l ++ [(r % 997).toNat]))])
      else .next [a, b, some (.ref pre.length), c, d, e, some (.int r), f] (pre ++ [.lst (nats l)]) := by
  have hd : divOk 997 = true := by decide +kernel
  have hm : 0 ≤ r % 997 := Int.emod_nonneg _ (by decide)
  have hv : (pre ++ [D.lst (nats l)])[pre.length]? = some (.lst (nats l)) := by simp
  unfold bInner
  by_cases h0 : 0 < r
  · simp [h0, app_c hm hl]
  · simp [h0]
theorem app_lt {l : List Nat} {x : Nat} (h : ∀ v ∈ l, v < 997) (hx : x < 997) : ∀ v ∈ l ++ [x], v < 997 := fun v hv => by
  rcases List.mem_append.mp hv with h1 | h1
  · exact h v h1
  · rw [List.mem_singleton.mp h1]; exact hx
theorem inner_all {ns : List Int} {pre : Sto} {l : List Nat} {a b c d e f : Option D} {r : Int} (h : 0 ≤ r) (hl : l.length < 100000) (hvv : ∀ v ∈ l, v < 997) :
    ∃ ρ st, forGo (fb G C pre.length (.one 7) bInner) (rng 0 60) [a, b, some (.ref pre.length), c, d, e, some (.int r), f] (pre ++ [.lst (nats l)]) = .next ρ st ∧
      ∃ (r2 : Int) (l2 : List Nat) (f : Option D), l2.length ≤ l.length + (if r = 0 then 0 else 60) ∧ ρ = [a, b, some (.ref pre.length), c, d, e, some (.int r2), f] ∧ st = pre ++ [.lst (nats l2)] ∧ ∀ v ∈ l2, v < 997 := by
  have hz : SZ = 16777216 := rfl
  have key := forGo_inv (b := fb G C pre.length (.one 7) bInner) (xs := rng 0 60)
    (fun i ρ st => ∃ (r2 : Int) (l2 : List Nat) (f : Option D), 0 ≤ r2 ∧ (r = 0 → r2 = 0) ∧ l2.length ≤ l.length + (if r = 0 then 0 else i) ∧ ρ = [a, b, some (.ref pre.length), c, d, e, some (.int r2), f] ∧ st = pre ++ [.lst (nats l2)] ∧ ∀ v ∈ l2, v < 997)
    (ρ := [a, b, some (.ref pre.length), c, d, e, some (.int r), f]) (st := pre ++ [.lst (nats l)]) ⟨r, l, f, h, id, by simp, rfl, rfl, hvv⟩ ?_
  · obtain ⟨ρ, st, e1, r2, l2, f2, h0, h1, h2, h3, h4, h5⟩ := key
    exact ⟨ρ, st, e1, r2, l2, f2, by simpa using h2, h3, h4, h5⟩
  · intro i x hx ρ st ⟨r2, l2, f2, h0, h1, h2, h3, h4, h5⟩
    obtain ⟨hi, rfl⟩ := rng_get hx
    subst h3 h4
    have hl2 : l2.length < SZ := by split at h2 <;> omega
    rw [fb_one]
    simp only [List.set_cons_succ, List.set_cons_zero]
    rw [inner_step (ns := ns) h0 hl2]
    by_cases hp : 0 < r2
    · rw [if_pos hp]
      refine ⟨_, _, .inl rfl, r2 / 997, _, _, Int.ediv_nonneg h0 (by decide), fun z => by have := h1 z; omega, ?_, rfl, rfl, app_lt h5 (by omega)⟩
      have hr : r ≠ 0 := fun z => by have := h1 z; omega
      rw [if_neg hr] at h2 ⊢
      simp; omega
    · rw [if_neg hp]
      refine ⟨_, _, .inl rfl, r2, _, _, h0, h1, ?_, rfl, rfl, h5⟩
      split at h2 <;> split <;> omega
theorem outer_step {ns : List Int} {pre : Sto} {l : List Nat} {b d e f g : Option D} {m : Int} {i : Nat} (hi : i < ns.length) (hi2 : i < 100000) (hm : 0 ≤ m) (hl : l.length < 50000) (hvv : ∀ v ∈ l, v < 997) :
    ∃ ρ st, evSs G C pre.length bOuter [some (.fz (ns.map D.int)), b, some (.ref pre.length), some (.int m), some (.int (i : Int)), e, f, g] (pre ++ [.lst (nats l)]) = .next ρ st ∧
      ∃ (m2 : Int) (l2 : List Nat) (e f g : Option D), 0 ≤ m2 ∧ l2.length ≤ l.length + 62 ∧ ρ = [some (.fz (ns.map D.int)), b, some (.ref pre.length), some (.int m2), some (.int (i : Int)), e, f, g] ∧ st = pre ++ [.lst (nats l2)] ∧ ∀ v ∈ l2, v < 997 := by
  have hz : SZ = 16777216 := rfl
  have g1 : atI (ns.map D.int) (i : Int) = some (.int ns[i]) := by rw [atI_of (by omega), Int.toNat_natCast, ints_get hi]
  obtain ⟨cell, hcell⟩ : ∃ cell : Int, (if ns[i] < 0 then -ns[i] else ns[i]) = cell := ⟨_, rfl⟩
  have hc : 0 ≤ cell := by rw [← hcell]; split <;> omega
  obtain ⟨m2, hm2⟩ : ∃ m2 : Int, (m * 48271 + cell % 1000003 + (i : Int)) % 65537 = m2 := ⟨_, rfl⟩
  have hm20 : 0 ≤ m2 := by rw [← hm2]; exact Int.emod_nonneg _ (by decide)
  have k1 : mulOk m 48271 = true := mulOk_of (.inr (by decide))
  have k2 : mulOk m2 69621 = true := mulOk_of (.inr (by decide))
  have q1 : 0 ≤ cell % 997 := Int.emod_nonneg _ (by decide)
  have q2 : 0 ≤ (m2 * 69621 + 5) % 65521 % 997 := Int.emod_nonneg _ (by decide)
  have s62 : small62 60 = true := by decide +kernel
  unfold bOuter
  by_cases hb : (10 : Int) ^ 18 ≤ cell
  · have hb' : (1000000000000000000 : Int) ≤ cell := by simpa using hb
    obtain ⟨ρ, st, e1, r2, l2, f2, h1, h2, h3⟩ := inner_all (G := G) (C := C) (ns := ns) (pre := pre) (l := l) (a := some (.fz (ns.map D.int))) (b := b) (c := some (.int m2)) (d := some (.int (i : Int))) (e := some (.int cell)) (f := g) (r := cell) hc (by omega) hvv
    refine ⟨ρ, st, ?_, m2, l2, some (.int cell), some (.int r2), f2, hm20, ?_, h2, h3⟩
    · simp [g1, hcell, k1, hm2, hb', s62, e1]
    · split at h1 <;> omega
  · have hb' : ¬ (1000000000000000000 : Int) ≤ cell := by simpa using hb
    obtain ⟨ρ, st, e1, r2, l2, f2, h1, h2, h3⟩ := inner_all (G := G) (C := C) (ns := ns) (pre := pre) (l := l ++ [(cell % 997).toNat] ++ [((m2 * 69621 + 5) % 65521 % 997).toNat]) (a := some (.fz (ns.map D.int))) (b := b) (c := some (.int m2)) (d := some (.int (i : Int))) (e := some (.int cell)) (f := g) (r := 0) (Int.le_refl 0) (by simp; omega) (app_lt (app_lt hvv (by omega)) (by omega))
    have A := @app_c pre
    have hs1 : l.length < SZ := by omega
    have hs2 : l.length + 1 < SZ := by omega
    refine ⟨ρ, st, ?_, m2, l2, some (.int cell), some (.int r2), f2, hm20, ?_, h2, h3⟩
    · simp at e1
      have p2 := A (l := l ++ [(cell % 997).toNat]) q2 (by simp; omega)
      simp [g1, hcell, k1, k2, hm2, hb', A q1 hs1, s62]
      rw [p2]
      simp [s62, e1]
    · simp at h1; omega
theorem last_step {pre : Sto} {l : List Nat} {a b e f g h : Option D} {m : Int} {i : Nat} (hl : l.length < SZ) :
    evSs G C pre.length bLast [a, b, some (.ref pre.length), some (.int m), some (.int (i : Int)), e, f, g] (pre ++ [.lst (nats l)]) =
      .next [a, b, some (.ref pre.length), some (.int ((m * 16807 + i + 1) % 65537)), some (.int (i : Int)), e, f, g] (pre ++ [.lst (nats (l ++ [((m * 16807 + i + 1) % 65537 % 997).toNat]))]) := by
  obtain ⟨m2, hm2⟩ : ∃ m2 : Int, (m * 16807 + i + 1) % 65537 = m2 := ⟨_, rfl⟩
  have k1 : mulOk m 16807 = true := mulOk_of (.inr (by decide))
  have q1 : 0 ≤ m2 % 997 := Int.emod_nonneg _ (by decide)
  have A := app_c (pre := pre) q1 hl
  unfold bLast
  simp [k1, hm2, A]
theorem cut_many {l : List Nat} {many : Nat} : cutD (nats l) none (some (many : Int)) = nats (l.take many) := by
  unfold cutD
  have h1 : HT.sIx (nats l).length 0 none = 0 := HT.sIx_none _ _
  rw [h1, HT.sIx_nat]
  simp [nats, List.map_take]
theorem outer_all {ns : List Int} {b : Option D} {pre : Sto} (h1 : ns.length ≤ 63) :
    ∃ ρ st, forGo (fb G C pre.length (.one 4) bOuter) (rng 0 ns.length) [some (.fz (ns.map D.int)), b, some (.ref pre.length), some (.int 7), none, none, none, none] (pre ++ [.lst []]) = .next ρ st ∧
      ∃ (l : List Nat) (m : Int) (x4 x5 x6 x7 : Option D), l.length ≤ 10000 ∧ ρ = [some (.fz (ns.map D.int)), b, some (.ref pre.length), some (.int m), x4, x5, x6, x7] ∧ st = pre ++ [.lst (nats l)] ∧ ∀ v ∈ l, v < 997 := by
  have hz : SZ = 16777216 := rfl
  have L1 := forGo_inv (b := fb G C pre.length (.one 4) bOuter) (xs := rng 0 ns.length)
    (fun i ρ st => ∃ (l : List Nat) (m : Int) (x4 x5 x6 x7 : Option D), 0 ≤ m ∧ l.length ≤ 62 * i ∧ ρ = [some (.fz (ns.map D.int)), b, some (.ref pre.length), some (.int m), x4, x5, x6, x7] ∧ st = pre ++ [.lst (nats l)] ∧ ∀ v ∈ l, v < 997)
    (ρ := [some (.fz (ns.map D.int)), b, some (.ref pre.length), some (.int 7), none, none, none, none]) (st := pre ++ [.lst []]) ⟨[], 7, none, none, none, none, by decide, by simp, rfl, rfl, fun v hv => nomatch hv⟩ ?_
  · obtain ⟨ρ1, st1, e1, l, m, x4, x5, x6, x7, hm, hl, e2, e3, e4⟩ := L1
    rw [rng_length] at hl
    exact ⟨ρ1, st1, e1, l, m, x4, x5, x6, x7, by omega, e2, e3, e4⟩
  · intro i x hx ρ st ⟨l, m, x4, x5, x6, x7, hm, hl, e3, e4, e5⟩
    obtain ⟨hi, rfl⟩ := rng_get hx
    subst e3 e4
    rw [fb_one]
    simp only [List.set_cons_succ, List.set_cons_zero, Int.zero_add]
    obtain ⟨ρ', st', e, m2, l2, y5, y6, y7, h0, h3, h4, h5, h6⟩ := outer_step (G := G) (C := C) (ns := ns) (pre := pre) (l := l) (b := b) (d := none) (e := x5) (f := x6) (g := x7) (m := m) (i := i) (by omega) (by omega) hm (by omega) e5
    exact ⟨ρ', st', .inl e, l2, m2, _, y5, y6, y7, h0, by omega, h4, h5, h6⟩
theorem last_all {a b : Option D} {many : Nat} {pre : Sto} {l : List Nat} {m : Int} {x4 x5 x6 x7 : Option D} (h2 : many ≤ 40000) (hl : l.length ≤ 10000) (hvv : ∀ v ∈ l, v < 997) :
    ∃ ρ st, forGo (fb G C pre.length (.one 4) bLast) (rng 0 many) [a, b, some (.ref pre.length), some (.int m), x4, x5, x6, x7] (pre ++ [.lst (nats l)]) = .next ρ st ∧
      ∃ (l2 : List Nat) (m : Int) (x4 x5 x6 x7 : Option D), many ≤ l2.length ∧ ρ = [a, b, some (.ref pre.length), some (.int m), x4, x5, x6, x7] ∧ st = pre ++ [.lst (nats l2)] ∧ ∀ v ∈ l2, v < 997 := by
  have hz : SZ = 16777216 := rfl
  have L2 := forGo_inv (b := fb G C pre.length (.one 4) bLast) (xs := rng 0 many)
    (fun i ρ st => ∃ (l2 : List Nat) (m : Int) (x4 x5 x6 x7 : Option D), l2.length = l.length + i ∧ ρ = [a, b, some (.ref pre.length), some (.int m), x4, x5, x6, x7] ∧ st = pre ++ [.lst (nats l2)] ∧ ∀ v ∈ l2, v < 997)
    (ρ := [a, b, some (.ref pre.length), some (.int m), x4, x5, x6, x7]) (st := pre ++ [.lst (nats l)]) ⟨l, m, x4, x5, x6, x7, rfl, rfl, rfl, hvv⟩ ?_
  · obtain ⟨ρ1, st1, e1, l, m, x4, x5, x6, x7, hl, e2, e3, e4⟩ := L2
    rw [rng_length] at hl
    exact ⟨ρ1, st1, e1, l, m, x4, x5, x6, x7, by omega, e2, e3, e4⟩
  · intro i x hx ρ st ⟨l2, m, x4, x5, x6, x7, hl2, e3, e4, e5⟩
    obtain ⟨hi, rfl⟩ := rng_get hx
    subst e3 e4
    have hl3 : l2.length < SZ := by omega
    rw [fb_one]
    simp only [List.set_cons_succ, List.set_cons_zero, Int.zero_add]
    rw [last_step (h := none) hl3]
    refine ⟨_, _, .inl rfl, _, _, _, _, _, _, ?_, rfl, rfl, app_lt e5 (by omega)⟩
    rw [List.length_append, List.length_singleton]
    omega
theorem draws_ev {ns : List Int} {many : Nat} {pre : Sto} (h1 : ns.length ≤ 63) (h2 : many ≤ 40000) :
    ∃ row : List Nat, row.length = many ∧ (∀ v ∈ row, v < 997) ∧ ∃ l, evSs G C pre.length bDraws [some (.fz (ns.map D.int)), some (.int many), none, none, none, none, none, none] pre = .ret (.lst (nats row)) (pre ++ l) := by
  obtain ⟨ρ1, st1, e1, l, m, x4, x5, x6, x7, hl, rfl, rfl, hvv⟩ := outer_all (G := G) (C := C) (b := some (.int many)) (pre := pre) h1
  obtain ⟨ρ2, st2, e2, l2, m2, y4, y5, y6, y7, hl2, rfl, rfl, hv2⟩ := last_all (G := G) (C := C) (a := some (.fz (ns.map D.int))) (b := some (.int many)) (pre := pre) (l := l) (m := m) (x4 := x4) (x5 := x5) (x6 := x6) (x7 := x7) h2 hl hvv
  have s1 : small62 (ns.length : Int) = true := small62_of (by omega) (by omega)
  have s2 : small62 (many : Int) = true := small62_of (by omega) (by omega)
  have hcut := cut_many (l := l2) (many := many)
  refine ⟨l2.take many, by rw [List.length_take]; omega, fun v hv => hv2 v (List.mem_of_mem_take hv), [.lst (nats l2)], ?_⟩
  unfold bDraws
  simp [isC, s1, s2, e1, e2, slcD, hcut]
end

/-! ### the cell that is drawn from -/
abbrev kRow : Key := .inr (S [114, 111, 119])
abbrev kAt : Key := .inr (S [97, 116])
def dcell (row : List Nat) (at' : Nat) : D := .dk [(kRow, .lst (nats row)), (kAt, .int (at' : Int))]
/-- the draw -/
def tk (row : List Nat) (a : Nat) : Nat := row.getD (a % row.length) 0 + a / row.length
def bTake : Sms :=
  (.cons (.set 1 (.idx (.var 0) (.str (S [97, 116]))))
  (.cons (.put (.var 0) (.str (S [97, 116])) (.bin .add (.var 1) (.int 1)))
  (.cons (.ret (.bin .add (.idx (.idx (.var 0) (.str (S [114, 111, 119]))) (.bin .mod (.var 1) (.bi .len (.cons (.idx (.var 0) (.str (S [114, 111, 119]))) .nil)))) (.bin .fdiv (.var 1) (.bi .len (.cons (.idx (.var 0) (.str (S [114, 111, 119]))) .nil)))))
  .nil)))
section
variable {G : Prog} {C : Nat → List D → Sto → Out D}
theorem take_ev {fl n : Nat} {row : List Nat} {a : Nat} {st : Sto} (h0 : row ≠ []) (h1 : row.length < 100000) (e : st[n]? = some (dcell row a)) :
    evSs G C fl bTake [some (.ref n), none] st = .ret (.int (tk row a)) (st.set n (dcell row (a + 1))) := by
  have hn : n < st.length := (List.getElem?_eq_some_iff.mp e).1
  have hl : 0 < row.length := List.length_pos_iff.mpr h0
  have hk : (kRow = kAt) = False := by simp [kRow, kAt]
  have hk2 : (kAt = kRow) = False := by simp [kRow, kAt]
  have hz : SZ = 16777216 := rfl
  have e2 : (st.set n (dcell row (a + 1)))[n]? = some (dcell row (a + 1)) := by
    rw [List.getElem?_set_self hn]
  have hg1 : ∀ a, dget [(kRow, D.lst (nats row)), (kAt, .int (a : Int))] kRow = some (.lst (nats row)) := fun a => by simp [dget]
  have hg2 : ∀ a, dget [(kRow, D.lst (nats row)), (kAt, .int (a : Int))] kAt = some (.int a) := fun a => by simp [dget, hk]
  have hp : putD fl (.ref n) (.str (S [97, 116])) (.int ((a : Int) + 1)) st = some (st.set n (dcell row (a + 1))) := by
    unfold putD
    dsimp only
    rw [e]
    dsimp only [dcell, keyD]
    rw [if_pos ⟨by simp [SZ], by unfold wrOk; simp [D.lo]⟩]
    simp [dput, hk]
  have hat : atI (nats row) ((a : Int) % row.length) = some (.int (row.getD (a % row.length) 0 : Nat)) := by
    have hlt : a % row.length < row.length := Nat.mod_lt _ hl
    rw [atI_of (Int.emod_nonneg _ (by omega)), show ((a : Int) % row.length).toNat = a % row.length by omega]
    simp [nats, hlt, List.getD_eq_getElem?_getD]
  have hd : divOk (row.length : Int) = true := by
    unfold divOk
    have : Nat.log2 row.length < 9000 := by
      have := Nat.log2_lt (n := row.length) (k := 17) (by omega)
      have := this.mpr (by omega)
      omega
    simp [hl, this]
  unfold bTake
  have e' : st[n]? = some (.dk [(kRow, D.lst (nats row)), (kAt, .int (a : Int))]) := e
  have e2' : (st.set n (dcell row (a + 1)))[n]? = some (.dk [(kRow, D.lst (nats row)), (kAt, .int ((a + 1 : Nat) : Int))]) := e2
  simp only [ss_cons, ss_nil, s_set, s_put, s_ret, e_idx, e_var, e_str, e_bin, e_int, e_bi, es_cons, es_nil, List.getElem?_cons_zero, List.getElem?_cons_succ, Out.bind_ok, idx_ref, e', Option.getD_some, keyD_str, Option.bind_some, hg2, lift_some, Out.thenS_ok, List.set_cons_succ, List.set_cons_zero, OutS.seq_next, bin_add, hp, e2', hg1]
  simp only [ss_cons, ss_nil, s_set, s_put, s_ret, e_idx, e_var, e_str, e_bin, e_int, e_bi, es_cons, es_nil, List.getElem?_cons_zero, List.getElem?_cons_succ, Out.bind_ok, idx_ref, e2', Option.getD_some, keyD_str, Option.bind_some, hg1, lift_some, Out.thenS_ok, OutS.seq_next, bi_len, view_lst, bin_mod, nats_len, Int.natCast_pos.mpr hl, if_true, bin_fdiv, hd, idx_lst, hat, bin_add, OutS.seq_ret]
  rfl

/-- a draw, as a call -/
theorem run_take {G : Prog} {k fl f n : Nat} {F : Fn} {row : List Nat} {a : Nat} {st : Sto} (hF : G.fns[f]? = some F) (hb : F.body = bTake) (hp : F.pop = true) (hnp : F.np = 1) (hN : F.N.length = 2) (h0 : row ≠ []) (h1 : row.length < 100000) (e : st[n]? = some (dcell row a)) :
    run G (k + 1) fl f [.ref n] st = .ok (.int (tk row a)) (st.set n (dcell row (a + 1))) := by
  have h := take_ev (G := G) (C := run G k st.length) (fl := st.length) h0 h1 e
  have := run_popS (fl := fl) (ds := [.ref n]) (d' := .int (tk row a)) hF hp (by rw [hnp]; rfl) (by
    rw [hb, hN, hnp]
    exact h) rfl
  rw [this]
  congr 1
  rw [List.take_of_length_le]
  simp
theorem run_drawsB {G : Prog} {k fl f : Nat} {F : Fn} {ns : List Int} {many : Nat} {st : Sto} (hF : G.fns[f]? = some F) (hb : F.body = bDraws) (hp : F.pop = true) (hnp : F.np = 2) (hN : F.N.length = 8) (h1 : ns.length ≤ 63) (h2 : many ≤ 40000) :
    ∃ row : List Nat, row.length = many ∧ (∀ v ∈ row, v < 997) ∧ run G (k + 1) fl f [.fz (ns.map D.int), .int many] st = .ok (.lst (nats row)) st := by
  obtain ⟨row, hr, hb7, l, h⟩ := draws_ev (G := G) (C := run G k st.length) (pre := st) h1 h2
  exact ⟨row, hr, hb7, run_pop hF hp (by rw [hnp]; rfl) (by rw [hb, hN, hnp]; exact h) (by
    unfold unbox
    dsimp only
    rw [if_pos]
    exact nats_lo row)⟩
def bStart (f : Nat) (many : Int) : Sms := (.cons (.ret (.box (.dicE (.cons (.str (S [114, 111, 119])) (.call f (.cons (.var 0) (.cons (.int many) .nil))) (.cons (.str (S [97, 116])) (.int 0) .nil))))) .nil)
theorem run_startB {G : Prog} {k fl f fd : Nat} {F Fd : Fn} {ns : List Int} {many : Nat} {st : Sto} (hF : G.fns[f]? = some F) (hb : F.body = bStart fd many) (hp : F.pop = false) (hnp : F.np = 1) (hN : F.N.length = 1)
    (hFd : G.fns[fd]? = some Fd) (hbd : Fd.body = bDraws) (hpd : Fd.pop = true) (hnpd : Fd.np = 2) (hNd : Fd.N.length = 8) (h1 : ns.length ≤ 63) (h2 : many ≤ 40000) :
    ∃ row : List Nat, row.length = many ∧ (∀ v ∈ row, v < 997) ∧ run G (k + 2) fl f [.fz (ns.map D.int)] st = .ok (.ref st.length) (st ++ [dcell row 0]) := by
  obtain ⟨row, hr, hb7, h⟩ := run_drawsB (G := G) (k := k) (fl := fl) (st := st) hFd hbd hpd hnpd hNd h1 h2
  refine ⟨row, hr, hb7, run_keep hF hp (by rw [hnp]; rfl) ?_⟩
  rw [hb, hN, hnp]
  unfold bStart
  have hk : (kRow = kAt) = False := by simp [kRow, kAt]
  simp [h, isC, dput, hk, dcell]
theorem run_start {G : Prog} {k fl f fd : Nat} {F Fd : Fn} {ns : List Int} {many : Nat} {st : Sto} (hF : G.fns[f]? = some F) (hb : F.body = bStart fd many) (hp : F.pop = false) (hnp : F.np = 1) (hN : F.N.length = 1)
    (hFd : G.fns[fd]? = some Fd) (hbd : Fd.body = bDraws) (hpd : Fd.pop = true) (hnpd : Fd.np = 2) (hNd : Fd.N.length = 8) (h1 : ns.length ≤ 63) (h2 : many ≤ 40000) :
    ∃ row : List Nat, row.length = many ∧ run G (k + 2) fl f [.fz (ns.map D.int)] st = .ok (.ref st.length) (st ++ [dcell row 0]) := by
  obtain ⟨row, hr, _, h⟩ := run_startB (k := k) (fl := fl) (st := st) hF hb hp hnp hN hFd hbd hpd hnpd hNd h1 h2
  exact ⟨row, hr, h⟩
end
end Ev

set_option Elab.async false
set_option linter.all false
set_option maxRecDepth 100000
set_option maxHeartbeats 400000
/-! Ev, part 19: lists of numbers. -/
namespace Ev
open PySem L2

theorem atI_nats {l : List Nat} {i : Nat} (h : i < l.length) : atI (nats l) (i : Int) = some (.int (l.getD i 0 : Nat)) := by
  rw [atI_of (by omega), Int.toNat_natCast]
  simp [nats, List.getElem?_eq_getElem h, List.getD_eq_getElem?_getD]
theorem rng_nats (n : Nat) : rng 0 n = nats (List.range n) := by
  unfold rng nats
  simp
theorem rng_up (a : Nat) (b : Nat) : rng a b = nats ((List.range (b - a)).map (a + ·)) := by
  unfold rng nats
  rw [List.map_map]
  have : ((b : Int) - a).toNat = b - a := by omega
  rw [this]
  apply List.map_congr_left
  intro x _
  simp
theorem lc_rng {f : D → Sto → Out (Option D)} {n : Nat} {h : Nat → D} {st : Sto} (H : ∀ i, i < n → f (.int (i : Int)) st = .ok (some (h i)) st) : lcGo f (rng 0 n) st = .ok ((List.range n).map h) st := by
  rw [lcGo_pure (g := fun d => match d with | .int i => some (h i.toNat) | _ => none)]
  · rw [rng_nats]
    congr 1
    unfold nats
    rw [List.filterMap_map]
    rw [← List.filterMap_eq_map]
    rfl
  · intro x hx
    obtain ⟨i, rfl, h0, h1⟩ := mem_rng hx
    have := H i.toNat (by omega)
    rw [show ((i.toNat : Nat) : Int) = i by omega] at this
    exact this
theorem lc_rngF {f : D → Sto → Out (Option D)} {n : Nat} {p : Nat → Bool} {h : Nat → D} {st : Sto} (H : ∀ i, i < n → f (.int (i : Int)) st = .ok (if p i then some (h i) else none) st) : lcGo f (rng 0 n) st = .ok (((List.range n).filter p).map h) st := by
  rw [lcGo_pure (g := fun d => match d with | .int i => if p i.toNat then some (h i.toNat) else none | _ => none)]
  · rw [rng_nats]
    congr 1
    unfold nats
    rw [List.filterMap_map]
    induction List.range n with
    | nil => rfl
    | cons x xs ih =>
      rw [List.filterMap_cons, ih]
      dsimp only [Function.comp]
      rw [Int.toNat_natCast]
      cases hp : p x <;> simp [hp, List.filter_cons]
  · intro x hx
    obtain ⟨i, rfl, h0, h1⟩ := mem_rng hx
    have := H i.toNat (by omega)
    rw [show ((i.toNat : Nat) : Int) = i by omega] at this
    exact this
theorem toBools_map {α : Type} {l : List α} {p : α → Bool} : toBools (l.map fun i => D.bl (p i)) = some (l.map p) := by
  induction l with
  | nil => rfl
  | cons x xs ih => simp [toBools, ih]
theorem toInts_nats {l : List Nat} : toInts (nats l) = some (l.map fun n : Nat => (n : Int)) := by
  unfold nats
  induction l with
  | nil => rfl
  | cons x xs ih => simp [toInts, ih]
theorem okNs_nats {n : Nat} : ∀ l : List Nat, okNs n (nats l) = true
  | [] => by simp [nats, okNs]
  | x :: r => by
    have := okNs_nats (n := n) r
    unfold nats at this ⊢
    rw [List.map_cons, okNs, this]
    rfl
theorem eqvs_nats : ∀ {a b : List Nat}, eqvs (nats a) (nats b) = decide (a = b)
  | [], [] => by simp [nats, eqvs]
  | [], _ :: _ => by simp [nats, eqvs]
  | _ :: _, [] => by simp [nats, eqvs]
  | x :: a, y :: b => by
    have := eqvs_nats (a := a) (b := b)
    unfold nats at this ⊢
    rw [List.map_cons, List.map_cons, eqvs, this]
    have e : ((x : Int) = (y : Int)) = (x = y) := propext ⟨fun h => by omega, fun h => by rw [h]⟩
    simp only [eqv, e, List.cons.injEq, Bool.decide_and]
theorem eqD_tup {st : Sto} {a b : List Nat} : eqD st (.tup (nats a)) (.tup (nats b)) = some (decide (a = b)) := by
  unfold eqD
  rw [view_tup, view_tup, if_pos]
  · rw [eqv, eqvs_nats]
  · rw [okN, okN, okNs_nats, okNs_nats]; rfl
theorem eqD_lst {st : Sto} {a b : List Nat} : eqD st (.lst (nats a)) (.lst (nats b)) = some (decide (a = b)) := by
  unfold eqD
  rw [view_lst, view_lst, if_pos]
  · rw [eqv, eqvs_nats]
  · rw [okN, okN, okNs_nats, okNs_nats]; rfl
theorem any_nats {l : List Nat} {z : Nat} : (nats l).any (fun x => eqv x (.int z)) = decide (z ∈ l) := by
  unfold nats
  induction l with
  | nil => rfl
  | cons x xs ih =>
    rw [List.map_cons, List.any_cons, ih]
    have e : ((x : Int) = (z : Int)) = (z = x) := propext ⟨fun h => by omega, fun h => by rw [h]⟩
    simp only [eqv, e, List.mem_cons, Bool.decide_or]
theorem memD_nats {st : Sto} {l : List Nat} {z : Nat} : memD st (.int z) (.lst (nats l)) = some (decide (z ∈ l)) := by
  unfold memD
  rw [view_lst]
  dsimp only
  rw [okNs_nats, any_nats]
  rfl
theorem nats_map {α : Type} {l : List α} {f : α → Nat} : l.map (fun x => D.int (f x : Int)) = nats (l.map f) := by
  simp [nats]
theorem unbox_tup {fl : Nat} {st : Sto} {l : List Nat} : unbox fl st (.tup (nats l)) = some (.tup (nats l)) := by
  unfold unbox
  dsimp only
  exact if_pos (nats_lo l)
theorem unbox_lst {fl : Nat} {st : Sto} {l : List Nat} : unbox fl st (.lst (nats l)) = some (.lst (nats l)) := by
  unfold unbox
  dsimp only
  exact if_pos (nats_lo l)
/-- a call that leaves the store -/
theorem run_v {G : Prog} {k fl f : Nat} {ds : List D} {st : Sto} {F : Fn} {d : D} (hF : G.fns[f]? = some F) (hp : F.pop = true) (hn : ds.length = F.np) (hu : unbox st.length st d = some d)
    (h : evSs G (run G k st.length) st.length F.body (ds.map some ++ List.replicate (F.N.length - F.np) none) st = .ret d st) : run G (k + 1) fl f ds st = .ok d st := by
  have := run_popS (fl := fl) hF hp hn h hu
  rw [this, List.take_length]
/-- a comprehension that draws -/
theorem lc_draw {f : D → Sto → Out (Option D)} {n : Nat} {row : List Nat} {rest : Sto} (P : Nat → Prop) (H : ∀ i, i < n → ∀ a, ∃ v a' : Nat, f (.int (i : Int)) (dcell row a :: rest) = .ok (some (.int (v : Int))) (dcell row a' :: rest) ∧ P v) (a : Nat) :
    ∃ (l : List Nat) (a' : Nat), lcGo f (rng 0 n) (dcell row a :: rest) = .ok (nats l) (dcell row a' :: rest) ∧ l.length = n ∧ ∀ v ∈ l, P v := by
  obtain ⟨ds, st', e, l, a', rfl, rfl, hl, hp⟩ := lcGo_inv (f := f) (xs := rng 0 n) (fun i ds st => ∃ (l : List Nat) (a : Nat), ds = nats l ∧ st = dcell row a :: rest ∧ l.length = i ∧ ∀ v ∈ l, P v) (st := dcell row a :: rest) ⟨[], a, rfl, rfl, rfl, fun v hv => nomatch hv⟩ (by
    intro i x hx ds st ⟨l, a, e1, e2, hl, hp⟩
    obtain ⟨hi, rfl⟩ := rng_get hx
    subst e1 e2
    obtain ⟨v, a', e, pv⟩ := H i (by omega) a
    rw [Int.zero_add, e]
    refine ⟨_, _, rfl, l ++ [v], a', by simp [nats], rfl, by simp [hl], fun w hw => ?_⟩
    rcases List.mem_append.mp hw with h | h
    · exact hp w h
    · rw [List.mem_singleton.mp h]; exact pv)
  refine ⟨l, a', e, ?_, hp⟩
  rw [hl, rng_length]
  omega
end Ev

set_option Elab.async false
set_option linter.all false
set_option maxRecDepth 100000
set_option maxHeartbeats 400000
/-! Ev, part 20: more working lemmas. -/
namespace Ev
open PySem L2
/-- a while loop, one turn -/
theorem whlE_eq {c : Env → Sto → Out D} {b : Env → Sto → OutS} {ρ : Env} {st : Sto} : whlE c b ρ st = (c ρ st).thenS ρ fun x st1 => match x with
    | .bl true => (b ρ st1).turn (whlE c b)
    | .bl false => .next ρ st1
    | _ => .bad := by
  have none_bad : ∀ {ρ : Env} {st : Sto}, (¬ ∃ n r, whlN c b n ρ st = some r) → whlE c b ρ st = .bad := fun h => by unfold whlE; rw [dif_neg h]
  have one : ∀ {r : OutS}, whlN c b 1 ρ st = some r → whlE c b ρ st = r := fun h => whlE_of h
  have go : ∀ {st1 : Sto} {ρ' : Env} {st' : Sto}, (∀ n, whlN c b (n + 1) ρ st = whlN c b n ρ' st') → whlE c b ρ st = whlE c b ρ' st' := fun {st1 ρ' st'} h => by
    by_cases hx : ∃ n r, whlN c b n ρ' st' = some r
    · obtain ⟨n, r, e⟩ := hx
      rw [whlE_of e]
      exact whlE_of ((h n).trans e)
    · rw [none_bad hx]
      apply none_bad
      rintro ⟨n, r, e⟩
      cases n with
      | zero => simp [whlN] at e
      | succ n => exact hx ⟨n, r, (h n).symm.trans e⟩
  cases ec : c ρ st with
  | bad => exact one (by unfold whlN; rw [ec]; rfl)
  | exc x fs s => exact one (by unfold whlN; rw [ec]; rfl)
  | ok x s =>
    rw [Out.thenS_ok]
    cases x with
    | bl v =>
      cases v with
      | false => exact one (by unfold whlN; rw [ec])
      | true =>
        dsimp only
        cases eb : b ρ s with
        | next ρ' s' => exact go (st1 := s) fun n => by rw [whlN, ec]; dsimp only; rw [eb]
        | cont ρ' s' => exact go (st1 := s) fun n => by rw [whlN, ec]; dsimp only; rw [eb]
        | brk ρ' s' => exact one (by rw [whlN, ec]; dsimp only; rw [eb]; rfl)
        | ret d s' => exact one (by rw [whlN, ec]; dsimp only; rw [eb]; rfl)
        | exc x fs ρ' s' => exact one (by rw [whlN, ec]; dsimp only; rw [eb]; rfl)
        | bad => exact one (by rw [whlN, ec]; dsimp only; rw [eb]; rfl)
    | _ => exact one (by unfold whlN; rw [ec])
@[simp] theorem setSlots_nil {ρ : Env} : setSlots ρ [] [] = some ρ := rfl
@[simp] theorem setSlots_cons {ρ : Env} {i : Nat} {is : List Nat} {d : D} {ds : List D} : setSlots ρ (i :: is) (d :: ds) = setSlots (ρ.set i (some d)) is ds := rfl
@[simp] theorem asg_many {ρ : Env} {is : List Nat} {ds : List D} : asg ρ (.many is) (.tup ds) = setSlots ρ is ds := rfl
@[simp] theorem asg_manyK {ρ : Env} {is : List Nat} {ds : List D} : asg ρ (.many is) (.tk ds) = setSlots ρ is ds := rfl
@[simp] theorem slc_lst {st : Sto} {xs : List D} {lo hi : Option Int} : slcD st (.lst xs) lo hi = some (.lst (cutD xs lo hi)) := rfl
@[simp] theorem slc_tup {st : Sto} {xs : List D} {lo hi : Option Int} : slcD st (.tup xs) lo hi = some (.tup (cutD xs lo hi)) := rfl
/-- a place drawn in a display -/
theorem pick {xs : List D} {t n : Nat} (hn : xs.length = n) (h0 : 0 < n) : ∃ v, atI xs ((t : Int) % (n : Int)) = some v ∧ v ∈ xs := by
  have h1 : t % n < xs.length := by rw [hn]; exact Nat.mod_lt _ h0
  refine ⟨xs[t % n], ?_, List.getElem_mem _⟩
  rw [atI_of (Int.emod_nonneg _ (by omega)), show ((t : Int) % (n : Int)).toNat = t % n by omega]
  exact List.getElem?_eq_getElem h1
theorem cut_lo {l : List Nat} {a : Nat} : cutD (nats l) (some (a : Int)) none = nats (l.drop a) := by
  unfold cutD
  rw [HT.sIx_nat, nats_len]
  unfold HT.sIx
  dsimp only
  by_cases h : a ≤ l.length
  · rw [Nat.min_eq_left h]
    simp [nats, List.map_drop]
    rw [List.take_of_length_le (by simp)]
  · rw [Nat.min_eq_right (by omega), Nat.sub_self, List.take_zero, List.drop_of_length_le (by omega)]
    rfl
theorem cut_hi {l : List Nat} {a : Nat} : cutD (nats l) none (some (a : Int)) = nats (l.take a) := cut_many
theorem divOk_of {j : Int} (h : 0 < j) (h2 : j ≤ 1000000000000000000000) : divOk j = true := by
  unfold divOk
  have h3 : j.natAbs < 2 ^ 100 := by
    have : (2 : Nat) ^ 100 = 1267650600228229401496703205376 := by decide
    omega
  have h4 : Nat.log2 j.natAbs < 100 := (Nat.log2_lt (by omega)).mpr h3
  have h5 : Nat.log2 j.natAbs < 9000 := by omega
  simp [h, h5]
theorem small62_n {n : Nat} (h : n ≤ 1000000000) : small62 (n : Int) = true := small62_of (by omega) (by omega)
section
variable {st : Sto} {n : Nat} {xs ys : List D} {d : D}
@[simp] theorem bin_addR : binD st .add (.ref n) (.lst ys) = match (st[n]?).getD .non with
    | .lst xs => if xs.length + ys.length ≤ SZ then some (.lst (xs ++ ys)) else none
    | _ => none := by
  show binD st .add (.ref n) (.lst ys) = _
  unfold binD
  rw [view_ref, view_lst]
  cases (st[n]?).getD .non <;> rfl
@[simp] theorem get_last {pre : Sto} {d : D} : (pre ++ [d])[pre.length]? = some d := by simp
theorem app_n {pre : Sto} {l : List Nat} {n : Nat} (hl : l.length < SZ) : bmD pre.length .append (.ref pre.length) [.int (n : Int)] (pre ++ [.lst (nats l)]) = .ok .non (pre ++ [.lst (nats (l ++ [n]))]) := by
  rw [app_c (by omega) hl, Int.toNat_natCast]
end
theorem kit_ref {K : PySem.W.Frag} {C C' : Addr} {b : Bool} (h0 : PySem.W.subIn K (.ref C) (.ref C) = some true) (hdct : PySem.W.hasDictIn K C' = true) (ht : PySem.W.typeIn K (.ref C') = some (.type "type")) (h4 : PySem.W.subIn K (.ref C) (.ref C') = some b) : PySem.W.kitOne K (.ref C) (.ref C') = some b := by
  unfold PySem.W.kitOne
  split
  · rename_i e
    have e := eq_of_beq e
    cases e
    rw [h0] at h4
    exact h4
  · unfold PySem.W.kitCls
    dsimp only
    have hc : (PySem.W.clsIn K C').isSome = true := by
      unfold PySem.W.hasDictIn at hdct
      cases hz : PySem.W.clsIn K C' with
      | none => rw [hz] at hdct; cases hdct
      | some _ => rfl
    rw [hc, ht]
    rw [if_pos (by rfl)]
    exact h4
theorem slc_view {st : Sto} {x : D} {xs : List D} {lo hi : Option Int} (h : view st x = .lst xs) : slcD st x lo hi = some (.lst (cutD xs lo hi)) := by
  unfold slcD
  rw [h]
theorem idx_view {st : Sto} {x : D} {xs : List D} {i : Int} (h : view st x = .lst xs) : idxD st x (.int i) = atI xs i := by
  unfold idxD
  rw [h]
theorem idxT_view {st : Sto} {x : D} {xs : List D} {i : Int} (h : view st x = .tup xs) : idxD st x (.int i) = atI xs i := by
  unfold idxD
  rw [h]
theorem len_view {st : Sto} {x : D} {xs : List D} (h : view st x = .lst xs) : biD st .len [x] = some (.int xs.length) := by
  rw [bi_len, h]
theorem lenT_view {st : Sto} {x : D} {xs : List D} (h : view st x = .tup xs) : biD st .len [x] = some (.int xs.length) := by
  rw [bi_len, h]
theorem list_view {st : Sto} {x : D} {xs : List D} (h : view st x = .lst xs) : biD st .list [x] = some (.lst xs) := by
  rw [bi_list, h]
theorem eq_view {st : Sto} {x y : D} {a b : List Nat} (h : view st x = .lst (nats a)) (h' : view st y = .lst (nats b)) : eqD st x y = some (decide (a = b)) := by
  have := eqD_lst (st := st) (a := a) (b := b)
  unfold eqD at this ⊢
  rw [h, h']
  exact this
@[simp] theorem slc_ref {st : Sto} {n : Nat} {lo hi : Option Int} : slcD st (.ref n) lo hi = match (st[n]?).getD .non with
    | .lst xs => some (.lst (cutD xs lo hi))
    | .tup xs => some (.tup (cutD xs lo hi))
    | _ => none := rfl
mutual
theorem eqv_refl : ∀ (d : D) (n : Nat), okN n d = true → eqv d d = true
  | .non, _, _ => by simp [eqv]
  | .bl _, _, _ => by simp [eqv]
  | .int _, _, _ => by simp [eqv]
  | .str _, _, _ => by simp [eqv]
  | .tup xs, 0, h => by simp [okN] at h
  | .tup xs, n + 1, h => by rw [eqv]; exact eqvs_refl xs n (by simpa [okN] using h)
  | .lst xs, 0, h => by simp [okN] at h
  | .lst xs, n + 1, h => by rw [eqv]; exact eqvs_refl xs n (by simpa [okN] using h)
  | .fz _, n, h => by cases n <;> simp [okN] at h
  | .tk _, n, h => by cases n <;> simp [okN] at h
  | .dk _, n, h => by cases n <;> simp [okN] at h
  | .dt _, n, h => by cases n <;> simp [okN] at h
  | .ins _ _, n, h => by cases n <;> simp [okN] at h
  | .ref _, n, h => by cases n <;> simp [okN] at h
  | .fn _, n, h => by cases n <;> simp [okN] at h
  | .cl _, n, h => by cases n <;> simp [okN] at h
  | .ty _, n, h => by cases n <;> simp [okN] at h
  | .err _ _, n, h => by cases n <;> simp [okN] at h
theorem eqvs_refl : ∀ (xs : List D) (n : Nat), okNs n xs = true → eqvs xs xs = true
  | [], _, _ => by simp [eqvs]
  | x :: xs, n, h => by
    have h' : okN n x = true ∧ okNs n xs = true := by simpa [okNs] using h
    rw [eqvs, eqv_refl x n h'.1, eqvs_refl xs n h'.2]; rfl
end
theorem eqD_same {st : Sto} {x y d : D} (hx : view st x = d) (hy : view st y = d) (hd : okN 60 d = true) : eqD st x y = some true := by
  unfold eqD
  rw [hx, hy, hd]
  simp [eqv_refl d 60 hd]
theorem kt_NoneType_int : kitB "NoneType" "int" = some false := by decide +kernel
theorem kt_NoneType_str : kitB "NoneType" "str" = some false := by decide +kernel
theorem kt_NoneType_list : kitB "NoneType" "list" = some false := by decide +kernel
theorem kt_NoneType_tuple : kitB "NoneType" "tuple" = some false := by decide +kernel
theorem kt_NoneType_dict : kitB "NoneType" "dict" = some false := by decide +kernel
theorem kt_NoneType_bool : kitB "NoneType" "bool" = some false := by decide +kernel
theorem kt_bool_int : kitB "bool" "int" = some true := by decide +kernel
theorem kt_bool_str : kitB "bool" "str" = some false := by decide +kernel
theorem kt_bool_list : kitB "bool" "list" = some false := by decide +kernel
theorem kt_bool_tuple : kitB "bool" "tuple" = some false := by decide +kernel
theorem kt_bool_dict : kitB "bool" "dict" = some false := by decide +kernel
theorem kt_bool_bool : kitB "bool" "bool" = some true := by decide +kernel
theorem kt_int_int : kitB "int" "int" = some true := by decide +kernel
theorem kt_int_str : kitB "int" "str" = some false := by decide +kernel
theorem kt_int_list : kitB "int" "list" = some false := by decide +kernel
theorem kt_int_tuple : kitB "int" "tuple" = some false := by decide +kernel
theorem kt_int_dict : kitB "int" "dict" = some false := by decide +kernel
theorem kt_int_bool : kitB "int" "bool" = some false := by decide +kernel
theorem kt_str_int : kitB "str" "int" = some false := by decide +kernel
theorem kt_str_str : kitB "str" "str" = some true := by decide +kernel
theorem kt_str_list : kitB "str" "list" = some false := by decide +kernel
theorem kt_str_tuple : kitB "str" "tuple" = some false := by decide +kernel
theorem kt_str_dict : kitB "str" "dict" = some false := by decide +kernel
theorem kt_str_bool : kitB "str" "bool" = some false := by decide +kernel
theorem kt_list_int : kitB "list" "int" = some false := by decide +kernel
theorem kt_list_str : kitB "list" "str" = some false := by decide +kernel
theorem kt_list_list : kitB "list" "list" = some true := by decide +kernel
theorem kt_list_tuple : kitB "list" "tuple" = some false := by decide +kernel
theorem kt_list_dict : kitB "list" "dict" = some false := by decide +kernel
theorem kt_list_bool : kitB "list" "bool" = some false := by decide +kernel
theorem kt_tuple_int : kitB "tuple" "int" = some false := by decide +kernel
theorem kt_tuple_str : kitB "tuple" "str" = some false := by decide +kernel
theorem kt_tuple_list : kitB "tuple" "list" = some false := by decide +kernel
theorem kt_tuple_tuple : kitB "tuple" "tuple" = some true := by decide +kernel
theorem kt_tuple_dict : kitB "tuple" "dict" = some false := by decide +kernel
theorem kt_tuple_bool : kitB "tuple" "bool" = some false := by decide +kernel
theorem kt_dict_int : kitB "dict" "int" = some false := by decide +kernel
theorem kt_dict_str : kitB "dict" "str" = some false := by decide +kernel
theorem kt_dict_list : kitB "dict" "list" = some false := by decide +kernel
theorem kt_dict_tuple : kitB "dict" "tuple" = some false := by decide +kernel
theorem kt_dict_dict : kitB "dict" "dict" = some true := by decide +kernel
theorem kt_dict_bool : kitB "dict" "bool" = some false := by decide +kernel
theorem ty_non  : tyD .non = some "NoneType" := rfl
theorem ty_bl {b : Bool} : tyD (.bl b) = some "bool" := rfl
theorem ty_int {i : Int} : tyD (.int i) = some "int" := rfl
theorem ty_str {x : Str} : tyD (.str x) = some "str" := rfl
theorem ty_tup {xs : List D} : tyD (.tup xs) = some "tuple" := rfl
theorem ty_tk {xs : List D} : tyD (.tk xs) = some "tuple" := rfl
theorem ty_lst {xs : List D} : tyD (.lst xs) = some "list" := rfl
theorem ty_fz {xs : List D} : tyD (.fz xs) = some "list" := rfl
theorem isNon_bl {b : Bool} : isNon (.bl b) = false := rfl
theorem isNon_int {i : Int} : isNon (.int i) = false := rfl
theorem isNon_str {x : Str} : isNon (.str x) = false := rfl
theorem isNon_tupl {xs : List D} : isNon (.tup xs) = false := rfl
theorem isNon_lstl {xs : List D} : isNon (.lst xs) = false := rfl
theorem at0 {x : D} {r : List D} : atI (x :: r) 0 = some x := by rw [atI_of (by decide)]; rfl
theorem at1 {x y : D} {r : List D} : atI (x :: y :: r) 1 = some y := by rw [atI_of (by decide)]; rfl
theorem at2 {x y z : D} {r : List D} : atI (x :: y :: z :: r) 2 = some z := by rw [atI_of (by decide)]; rfl
theorem at3 {x y z w : D} {r : List D} : atI (x :: y :: z :: w :: r) 3 = some w := by rw [atI_of (by decide)]; rfl
theorem ltS_sign {a b : Nat} : ltS ⟨#[a]⟩ ⟨#[b]⟩ = decide (a < b) := by
  unfold ltS
  apply decide_eq_decide.mpr
  show ([a] : List Nat) < [b] ↔ a < b
  constructor
  · intro h
    cases h with
    | rel h => exact h
    | cons h => cases h
  · intro h
    exact .rel h
mutual
theorem okN_mono : ∀ (d : D) (n k : Nat), n ≤ k → okN n d = true → okN k d = true
  | .non, _, _, _, _ => by simp [okN]
  | .bl _, _, _, _, _ => by simp [okN]
  | .int _, _, _, _, _ => by simp [okN]
  | .str _, _, _, _, _ => by simp [okN]
  | .tup xs, 0, _, _, h => by simp [okN] at h
  | .lst xs, 0, _, _, h => by simp [okN] at h
  | .tup xs, n + 1, 0, hk, h => by omega
  | .lst xs, n + 1, 0, hk, h => by omega
  | .tup xs, n + 1, k + 1, hk, h => by rw [okN] at h ⊢; exact okNs_mono xs n k (by omega) h
  | .lst xs, n + 1, k + 1, hk, h => by rw [okN] at h ⊢; exact okNs_mono xs n k (by omega) h
  | .fz _, n, _, _, h => by cases n <;> simp [okN] at h
  | .tk _, n, _, _, h => by cases n <;> simp [okN] at h
  | .dk _, n, _, _, h => by cases n <;> simp [okN] at h
  | .dt _, n, _, _, h => by cases n <;> simp [okN] at h
  | .ins _ _, n, _, _, h => by cases n <;> simp [okN] at h
  | .ref _, n, _, _, h => by cases n <;> simp [okN] at h
  | .fn _, n, _, _, h => by cases n <;> simp [okN] at h
  | .cl _, n, _, _, h => by cases n <;> simp [okN] at h
  | .ty _, n, _, _, h => by cases n <;> simp [okN] at h
  | .err _ _, n, _, _, h => by cases n <;> simp [okN] at h
theorem okNs_mono : ∀ (xs : List D) (n k : Nat), n ≤ k → okNs n xs = true → okNs k xs = true
  | [], _, _, _, _ => by simp [okNs]
  | x :: xs, n, k, hk, h => by
    rw [okNs, Bool.and_eq_true] at h
    rw [okNs, okN_mono x n k hk h.1, okNs_mono xs n k hk h.2]; rfl
end
/-- the same text -/
def strEq (x : Str) : D → Bool
  | .str y => decide (x = y)
  | _ => false
theorem eqD_strT {st : Sto} {x : Str} {d : D} (h : okN 60 d = true) : eqD st (.str x) d = some (strEq x d) := by
  have hv : view st d = d := by cases d <;> first | rfl | simp [okN] at h
  unfold eqD
  rw [hv, view_str, if_pos (by simp [okN, h])]
  cases d <;> simp [eqv, strEq]
theorem eqD_nilT {st : Sto} {xs : List D} (h : okNs 59 xs = true) : eqD st (.tup xs) (.tup []) = some xs.isEmpty := by
  unfold eqD
  rw [view_tup, view_tup, if_pos (by simp [okN, okNs, h])]
  cases xs <;> simp [eqv, eqvs]
theorem eqD_nilL {st : Sto} {xs : List D} (h : okNs 59 xs = true) : eqD st (.lst xs) (.lst []) = some xs.isEmpty := by
  unfold eqD
  rw [view_lst, view_lst, if_pos (by simp [okN, okNs, h])]
  cases xs <;> simp [eqv, eqvs]
/-- a call that hands nothing back -/
theorem run_nx {G : Prog} {k fl f : Nat} {ds : List D} {st : Sto} {F : Fn} {ρ : Env} (hF : G.fns[f]? = some F) (hp : F.pop = true) (hn : ds.length = F.np)
    (h : evSs G (run G k st.length) st.length F.body (ds.map some ++ List.replicate (F.N.length - F.np) none) st = .next ρ st) : run G (k + 1) fl f ds st = .ok .non st := by
  unfold run
  rw [hF]
  dsimp only
  rw [if_pos hn]
  simp only [hp, if_true]
  rw [h]
  dsimp only [fin]
  rw [if_pos rfl]
  show (Out.ok D.non (st.take st.length) : Out D) = _
  rw [List.take_length]
end Ev

set_option Elab.async false
set_option linter.all false
set_option maxRecDepth 100000
set_option maxHeartbeats 8000000
namespace Law
open Ev PySem L2 PySem.Spec
open PyProof.Rows hiding St

def topS (i : Nat) : Stmt := PySem.Challenge.pw_closedcuts_k28_statistics_and_parts.main.body.getD i (.Pass ⟨0, 0, 0, 0⟩)
abbrev i_sum_of : Nat := 0
abbrev i_pair_of : Nat := 1
abbrev i_statistics : Nat := 2
abbrev i_parts : Nat := 3
abbrev i__law_draws : Nat := 4
abbrev i__law_take : Nat := 5
abbrev i__law_start : Nat := 6
abbrev i__law_drawn : Nat := 7
abbrev i__law_widen : Nat := 8
abbrev i__law_schema : Nat := 9
abbrev i__law_word : Nat := 10
abbrev i__law_a_cell : Nat := 11
abbrev i__law_rows : Nat := 12
abbrev i__law_pair : Nat := 13
abbrev i_law : Nat := 14
/-! sum_of(rule, cell): 0=rule 1=cell -/
abbrev s0 : Stmt := topS 1
def n_sum_of : List Str := ["rule", "cell"]
def b_sum_of : Sms :=
  (.cons (.ifS (.cmp .eq (.var 0) (.str (S [115, 104, 97, 114, 101])))
    (.cons (.ret (.bi .sum (.cons (.var 1) .nil)))
    .nil)
    .nil)
  (.cons (.ret (.var 1))
  .nil))
def f_sum_of : Fn := { name := "sum_of", np := 2, N := n_sum_of, body := b_sum_of }
/-! pair_of(rule, cells): 0=rule 1=cells 2=found 3=cell -/
abbrev s1 : Stmt := topS 2
def n_pair_of : List Str := ["rule", "cells", "found", "cell"]
def b_pair_of_l1 : Sms :=
  (.cons (.ifS (.cmp .eq (.var 0) (.str (S [108, 111, 116])))
    (.cons (.expr (.bm .extend (.var 2) (.cons (.var 3) .nil)))
    .nil)
    (.cons (.expr (.bm .append (.var 2) (.cons (.call i_sum_of (.cons (.var 0) (.cons (.var 3) .nil))) .nil)))
    .nil))
  .nil)
def b_pair_of : Sms :=
  (.cons (.set 2 (.box (.lstE .nil)))
  (.cons (.forS (.one 3) (.seq (.var 1)) b_pair_of_l1)
  (.cons (.ifS (.cmp .eq (.var 2) (.lstE .nil))
    (.cons (.ret .non)
    .nil)
    .nil)
  (.cons (.ret (.tupE (.cons (.bi .min1 (.cons (.var 2) .nil)) (.cons (.bi .max1 (.cons (.var 2) .nil)) .nil))))
  .nil))))
def f_pair_of : Fn := { name := "pair_of", np := 2, N := n_pair_of, body := b_pair_of }
/-! statistics(table, rows): 0=table 1=rows 2=pairs 3=index 4=_ 5=row -/
abbrev s2 : Stmt := topS 3
def n_statistics : List Str := ["table", "rows", "pairs", "index", "_", "row"]
def b_statistics_c1 : Ex :=
  (.idx (.var 5) (.var 3))
def b_statistics_l1 : Sms :=
  (.cons (.expr (.bm .append (.var 2) (.cons (.call i_pair_of (.cons (.idx (.idx (.idx (.var 0) (.int 2)) (.var 3)) (.int 1)) (.cons (.lc b_statistics_c1 (.many [4, 5]) (.seq (.var 1)) .nil [4, 5]) .nil))) .nil)))
  .nil)
def b_statistics : Sms :=
  (.cons (.set 2 (.box (.lstE .nil)))
  (.cons (.forS (.one 3) (.rng1 (.bi .len (.cons (.idx (.var 0) (.int 2)) .nil))) b_statistics_l1)
  (.cons (.ret (.tupE (.cons (.bi .len (.cons (.var 1) .nil)) (.cons (.idx (.idx (.var 1) (.int 0)) (.int 0)) (.cons (.idx (.idx (.var 1) (.neg (.int 1))) (.int 0)) (.cons (.bi .tuple (.cons (.var 2) .nil)) .nil))))))
  .nil)))
def f_statistics : Fn := { name := "statistics", np := 2, N := n_statistics, body := b_statistics }
/-! parts(rows, limit): 0=rows 1=limit 2=at -/
abbrev s3 : Stmt := topS 4
def n_parts : List Str := ["rows", "limit", "at"]
def b_parts_c1 : Ex :=
  (.slc (.var 0) (.cons (.var 2) .nil) (.cons (.bin .add (.var 2) (.var 1)) .nil))
def b_parts : Sms :=
  (.cons (.ret (.bi .tuple (.cons (.lc b_parts_c1 (.one 2) (.rng3 (.int 0) (.bi .len (.cons (.var 0) .nil)) (.var 1)) .nil [2]) .nil)))
  .nil)
def f_parts : Fn := { name := "parts", np := 2, N := n_parts, body := b_parts }
/-! _law_draws(script, many): 0=script 1=many 2=draws 3=mixed 4=k 5=cell 6=rest 7=turn -/
abbrev s4 : Stmt := topS 6
def n__law_draws : List Str := ["script", "many", "draws", "mixed", "k", "cell", "rest", "turn"]
def b__law_draws_l1 : Sms :=
  (.cons (.ifS (.cmp .gt (.var 6) (.int 0))
    (.cons (.expr (.bm .append (.var 2) (.cons (.bin .mod (.bi .int (.cons (.var 6) .nil)) (.int 997)) .nil)))
    (.cons (.set 6 (.bin .fdiv (.var 6) (.int 997)))
    .nil))
    .nil)
  .nil)
def b__law_draws_l2 : Sms :=
  (.cons (.set 5 (.bi .abs (.cons (.bi .int (.cons (.idx (.var 0) (.var 4)) .nil)) .nil)))
  (.cons (.set 3 (.bin .mod (.bi .int (.cons (.bin .add (.bin .add (.bin .mul (.var 3) (.int 48271)) (.bin .mod (.var 5) (.int 1000003))) (.var 4)) .nil)) (.int 65537)))
  (.cons (.set 6 (.int 0))
  (.cons (.ifS (.cmp .ge (.var 5) (.bin .pow (.int 10) (.int 18)))
    (.cons (.set 6 (.var 5))
    .nil)
    (.cons (.expr (.bm .append (.var 2) (.cons (.bin .mod (.var 5) (.int 997)) .nil)))
    (.cons (.expr (.bm .append (.var 2) (.cons (.bin .mod (.bin .mod (.bi .int (.cons (.bin .add (.bin .mul (.var 3) (.int 69621)) (.int 5)) .nil)) (.int 65521)) (.int 997)) .nil)))
    .nil)))
  (.cons (.forS (.one 7) (.rng1 (.int 60)) b__law_draws_l1)
  .nil)))))
def b__law_draws_l3 : Sms :=
  (.cons (.set 3 (.bin .mod (.bi .int (.cons (.bin .add (.bin .add (.bin .mul (.var 3) (.int 16807)) (.var 4)) (.int 1)) .nil)) (.int 65537)))
  (.cons (.expr (.bm .append (.var 2) (.cons (.bin .mod (.bi .int (.cons (.var 3) .nil)) (.int 997)) .nil)))
  .nil))
def b__law_draws : Sms :=
  (.cons (.set 2 (.box (.lstE .nil)))
  (.cons (.set 3 (.int 7))
  (.cons (.forS (.one 4) (.rng1 (.bi .len (.cons (.var 0) .nil))) b__law_draws_l2)
  (.cons (.forS (.one 4) (.rng1 (.var 1)) b__law_draws_l3)
  (.cons (.ret (.slc (.var 2) .nil (.cons (.var 1) .nil)))
  .nil)))))
def f__law_draws : Fn := { name := "_law_draws", np := 2, N := n__law_draws, body := b__law_draws }
/-! _law_take(d): 0=d 1=at -/
abbrev s5 : Stmt := topS 7
def n__law_take : List Str := ["d", "at"]
def b__law_take : Sms :=
  (.cons (.set 1 (.idx (.var 0) (.str (S [97, 116]))))
  (.cons (.put (.var 0) (.str (S [97, 116])) (.bin .add (.var 1) (.int 1)))
  (.cons (.ret (.bin .add (.idx (.idx (.var 0) (.str (S [114, 111, 119]))) (.bin .mod (.var 1) (.bi .len (.cons (.idx (.var 0) (.str (S [114, 111, 119]))) .nil)))) (.bin .fdiv (.var 1) (.bi .len (.cons (.idx (.var 0) (.str (S [114, 111, 119]))) .nil)))))
  .nil)))
def f__law_take : Fn := { name := "_law_take", np := 1, N := n__law_take, body := b__law_take }
/-! _law_start(script): 0=script 1=d -/
abbrev s6 : Stmt := topS 8
def n__law_start : List Str := ["script", "d"]
def b__law_start : Sms :=
  (.cons (.set 1 (.box (.dicE (.cons (.str (S [114, 111, 119])) (.call i__law_draws (.cons (.var 0) (.cons (.int 400) .nil))) (.cons (.str (S [97, 116])) (.int 0) .nil)))))
  (.cons (.expr (.call i__law_widen (.cons (.var 1) .nil)))
  (.cons (.ret (.var 1))
  .nil)))
def f__law_start : Fn := { name := "_law_start", np := 1, N := n__law_start, body := b__law_start, pop := false }
/-! _law_drawn(d, signs, least, most): 0=d 1=signs 2=least 3=most 4=first 5=step 6=many 7=k -/
abbrev s7 : Stmt := topS 9
def n__law_drawn : List Str := ["d", "signs", "least", "most", "first", "step", "many", "k"]
def b__law_drawn_c1 : Ex :=
  (.idx (.var 1) (.bin .mod (.bi .int (.cons (.bin .add (.var 4) (.bin .mul (.var 5) (.var 7))) .nil)) (.bi .len (.cons (.var 1) .nil))))
def b__law_drawn : Sms :=
  (.cons (.set 4 (.call i__law_take (.cons (.var 0) .nil)))
  (.cons (.set 5 (.call i__law_take (.cons (.var 0) .nil)))
  (.cons (.set 6 (.bin .add (.var 2) (.bin .mod (.call i__law_take (.cons (.var 0) .nil)) (.bin .add (.bin .sub (.var 3) (.var 2)) (.int 1)))))
  (.cons (.ret (.bm .join (.str (S [])) (.cons (.lc b__law_drawn_c1 (.one 7) (.rng1 (.var 6)) .nil [7]) .nil)))
  .nil))))
def f__law_drawn : Fn := { name := "_law_drawn", np := 4, N := n__law_drawn, body := b__law_drawn }
/-! _law_widen(d): 0=d 1=letters 2=signs 3=k 4=name 5=words -/
abbrev s8 : Stmt := topS 10
def n__law_widen : List Str := ["d", "letters", "signs", "k", "name", "words"]
def b__law_widen_l1 : Sms :=
  (.cons (.set 4 (.bin .add (.str (S [113])) (.call i__law_drawn (.cons (.var 0) (.cons (.var 1) (.cons (.int 0) (.cons (.int 19) .nil)))))))
  (.cons (.ifS (.cmp .nmem (.var 4) (.idx (.var 0) (.str (S [110, 97, 109, 101, 115]))))
    (.cons (.put (.idx (.var 0) (.str (S [110, 97, 109, 101, 115]))) (.var 3) (.var 4))
    .nil)
    .nil)
  .nil))
def b__law_widen_c1 : Ex :=
  (.call i__law_drawn (.cons (.var 0) (.cons (.var 2) (.cons (.int 1) (.cons (.int 37) .nil)))))
def b__law_widen_c2 : Ex :=
  (.call i__law_drawn (.cons (.var 0) (.cons (.var 2) (.cons (.int 0) (.cons (.int 37) .nil)))))
def b__law_widen : Sms :=
  (.cons (.set 1 (.str (S [97, 98, 99, 100, 101, 102, 103, 104, 105, 106, 107, 108, 109, 110, 111, 112, 113, 114, 115, 116, 117, 118, 119, 120, 121, 122])))
  (.cons (.set 2 (.bin .add (.var 1) (.str (S [32, 126, 33, 64, 35, 36, 94, 38, 42, 40, 41, 43, 61, 91, 93, 123, 125, 124, 59, 58, 44, 46, 60, 62, 63, 47, 65, 90, 48, 57, 95, 45]))))
  (.cons (.put (.var 0) (.str (S [119, 105, 100, 101])) (.cmp .eq (.bin .mod (.call i__law_take (.cons (.var 0) .nil)) (.int 4)) (.int 0)))
  (.cons (.put (.var 0) (.str (S [110, 97, 109, 101, 115])) (.box (.lstE (.cons (.str (S [97])) (.cons (.str (S [116, 97, 98])) (.cons (.str (S [122])) (.cons (.str (S [119])) (.cons (.str (S [110])) (.cons (.str (S [115])) (.cons (.str (S [109])) (.cons (.str (S [108])) (.cons (.str (S [104])) .nil))))))))))))
  (.cons (.put (.var 0) (.str (S [119, 111, 114, 100, 115])) (.lstE (.cons (.str (S [])) (.cons (.str (S [120])) (.cons (.str (S [121, 121])) (.cons (.str (S [97, 32, 119, 111, 114, 100])) (.cons (.str (S [122, 57])) .nil)))))))
  (.cons (.put (.var 0) (.str (S [107, 101, 121, 115])) (.dicE (.cons (.str (S [119, 111, 114, 100])) (.lstE (.cons (.str (S [])) (.cons (.str (S [97])) (.cons (.str (S [98])) (.cons (.str (S [107, 101, 121])) (.cons (.str (S [126, 32, 122])) .nil)))))) (.cons (.str (S [110, 117, 109, 98, 101, 114])) (.lstE (.cons (.int 0) (.cons (.int 1) (.cons (.int 2) (.cons (.int 3) (.cons (.neg (.int 7)) .nil)))))) .nil))))
  (.cons (.put (.var 0) (.str (S [115, 105, 122, 101, 115])) (.lstE (.cons (.int 0) (.cons (.int 1) (.cons (.int 2) (.cons (.int 5) (.cons (.int 9) (.cons (.int 40) .nil))))))))
  (.cons (.ifS (.idx (.var 0) (.str (S [119, 105, 100, 101])))
    (.cons (.forS (.one 3) (.rng1 (.int 9)) b__law_widen_l1)
    (.cons (.put (.var 0) (.str (S [119, 111, 114, 100, 115])) (.bin .add (.lstE (.cons (.str (S [])) .nil)) (.lc b__law_widen_c1 (.one 3) (.rng1 (.int 4)) .nil [3])))
    (.cons (.set 5 (.lc b__law_widen_c2 (.one 3) (.rng1 (.int 5)) .nil [3]))
    (.cons (.put (.var 0) (.str (S [107, 101, 121, 115])) (.dicE (.cons (.str (S [119, 111, 114, 100])) (.var 5) (.cons (.str (S [110, 117, 109, 98, 101, 114])) (.lstE (.cons (.int 0) (.cons (.neg (.int 1)) (.cons (.bin .pow (.int 10) (.int 15)) (.cons (.neg (.bin .pow (.int 10) (.int 15))) (.cons (.bin .add (.bin .pow (.int 2) (.int 31)) (.call i__law_take (.cons (.var 0) .nil))) .nil)))))) .nil))))
    (.cons (.put (.var 0) (.str (S [115, 105, 122, 101, 115])) (.lstE (.cons (.int 0) (.cons (.int 1) (.cons (.int 127) (.cons (.int 128) (.cons (.bin .pow (.int 2) (.int 31)) (.cons (.bin .pow (.int 10) (.int 14)) .nil))))))))
    .nil)))))
    .nil)
  .nil))))))))
def f__law_widen : Fn := { name := "_law_widen", np := 1, N := n__law_widen, body := b__law_widen, pop := false }
/-! _law_schema(d): 0=d 1=tables 2=names 3=name 4=rows 5=turn 6=columns -/
abbrev s9 : Stmt := topS 11
def n__law_schema : List Str := ["d", "tables", "names", "name", "rows", "turn", "columns"]
def b__law_schema_l1 : Sms :=
  (.cons (.set 4 (.lstE (.cons (.tupE (.cons (.idx (.var 2) (.int 3)) (.cons (.str (S [119, 111, 114, 100])) .nil))) (.cons (.tupE (.cons (.idx (.var 2) (.int 4)) (.cons (.str (S [110, 117, 109, 98, 101, 114])) .nil))) (.cons (.tupE (.cons (.idx (.var 2) (.int 5)) (.cons (.str (S [115, 117, 109])) .nil))) (.cons (.tupE (.cons (.idx (.var 2) (.int 6)) (.cons (.str (S [109, 111, 115, 116])) .nil))) (.cons (.tupE (.cons (.idx (.var 2) (.int 7)) (.cons (.str (S [108, 111, 116])) .nil))) (.cons (.tupE (.cons (.idx (.var 2) (.int 8)) (.cons (.str (S [115, 104, 97, 114, 101])) .nil))) .nil))))))))
  (.cons (.set 5 (.bin .mod (.call i__law_take (.cons (.var 0) .nil)) (.int 6)))
  (.cons (.set 6 (.slc (.bin .add (.slc (.var 4) (.cons (.var 5) .nil) .nil) (.slc (.var 4) .nil (.cons (.var 5) .nil))) .nil (.cons (.bin .add (.int 1) (.bin .mod (.call i__law_take (.cons (.var 0) .nil)) (.bin .add (.int 4) (.bin .mul (.int 2) (.bi .int (.cons (.idx (.var 0) (.str (S [119, 105, 100, 101]))) .nil)))))) .nil)))
  (.cons (.expr (.bm .append (.var 1) (.cons (.tupE (.cons (.var 3) (.cons (.idx (.lstE (.cons (.str (S [110, 117, 109, 98, 101, 114])) (.cons (.str (S [119, 111, 114, 100])) .nil))) (.bin .mod (.call i__law_take (.cons (.var 0) .nil)) (.int 2))) (.cons (.bi .tuple (.cons (.var 6) .nil)) .nil)))) .nil)))
  .nil))))
def b__law_schema : Sms :=
  (.cons (.set 1 (.box (.lstE .nil)))
  (.cons (.set 2 (.idx (.var 0) (.str (S [110, 97, 109, 101, 115]))))
  (.cons (.forS (.one 3) (.seq (.slc (.var 2) .nil (.cons (.bin .add (.int 1) (.bin .mod (.call i__law_take (.cons (.var 0) .nil)) (.int 3))) .nil))) b__law_schema_l1)
  (.cons (.ret (.bi .tuple (.cons (.var 1) .nil)))
  .nil))))
def f__law_schema : Fn := { name := "_law_schema", np := 1, N := n__law_schema, body := b__law_schema }
/-! _law_word(d): 0=d -/
abbrev s10 : Stmt := topS 13
def n__law_word : List Str := ["d"]
def b__law_word : Sms :=
  (.cons (.ret (.idx (.idx (.var 0) (.str (S [119, 111, 114, 100, 115]))) (.bin .mod (.call i__law_take (.cons (.var 0) .nil)) (.int 5))))
  .nil)
def f__law_word : Fn := { name := "_law_word", np := 1, N := n__law_word, body := b__law_word }
/-! _law_a_cell(d, rule, stations): 0=d 1=rule 2=stations 3=k 4=n -/
abbrev s11 : Stmt := topS 16
def n__law_a_cell : List Str := ["d", "rule", "stations", "k", "n"]
def b__law_a_cell_c1 : Ex :=
  (.call i__law_word (.cons (.var 0) .nil))
def b__law_a_cell_c2 : Ex :=
  (.bin .mul (.bin .mod (.call i__law_take (.cons (.var 0) .nil)) (.int 5)) (.idx (.lstE (.cons (.int 1) (.cons (.bin .mul (.int 2) (.bin .pow (.int 10) (.int 14))) .nil))) (.bi .int (.cons (.idx (.var 0) (.str (S [119, 105, 100, 101]))) .nil))))
def b__law_a_cell : Sms :=
  (.cons (.ifS (.cmp .eq (.var 1) (.str (S [119, 111, 114, 100])))
    (.cons (.ret (.call i__law_word (.cons (.var 0) .nil)))
    .nil)
    .nil)
  (.cons (.ifS (.cmp .eq (.var 1) (.str (S [108, 111, 116])))
    (.cons (.ret (.bi .tuple (.cons (.sset (.lc b__law_a_cell_c1 (.one 3) (.rng1 (.bin .mod (.call i__law_take (.cons (.var 0) .nil)) (.int 4))) .nil [3])) .nil)))
    .nil)
    .nil)
  (.cons (.ifS (.cmp .eq (.var 1) (.str (S [115, 104, 97, 114, 101])))
    (.cons (.ret (.bi .tuple (.cons (.lc b__law_a_cell_c2 (.one 3) (.rng1 (.var 2)) .nil [3]) .nil)))
    .nil)
    .nil)
  (.cons (.set 4 (.idx (.lstE (.cons (.int 0) (.cons (.int 1) (.cons (.int 7) (.cons (.int 300) (.cons (.bin .pow (.int 10) (.int 15)) (.cons (.call i__law_take (.cons (.var 0) .nil)) .nil))))))) (.bin .mod (.call i__law_take (.cons (.var 0) .nil)) (.int 6))))
  (.cons (.ifS (.orE (.cons (.cmp .eq (.var 1) (.str (S [109, 111, 115, 116]))) (.cons (.cmp .eq (.bin .mod (.call i__law_take (.cons (.var 0) .nil)) (.int 2)) (.int 0)) .nil)))
    (.cons (.ret (.var 4))
    .nil)
    .nil)
  (.cons (.ret (.neg (.var 4)))
  .nil))))))
def f__law_a_cell : Fn := { name := "_law_a_cell", np := 3, N := n__law_a_cell, body := b__law_a_cell }
/-! _law_rows(d, table, stations, most): 0=d 1=table 2=stations 3=most 4=keys 5=k 6=key 7=name 8=rule -/
abbrev s12 : Stmt := topS 17
def n__law_rows : List Str := ["d", "table", "stations", "most", "keys", "k", "key", "name", "rule"]
def b__law_rows_l1 : Sms :=
  (.cons (.set 6 (.bin .mul (.bin .sub (.bin .mod (.call i__law_take (.cons (.var 0) .nil)) (.int 50)) (.int 20)) (.idx (.lstE (.cons (.int 1) (.cons (.bin .mul (.int 3) (.bin .pow (.int 10) (.int 13))) .nil))) (.bi .int (.cons (.idx (.var 0) (.str (S [119, 105, 100, 101]))) .nil)))))
  (.cons (.ifS (.cmp .eq (.idx (.var 1) (.int 1)) (.str (S [119, 111, 114, 100])))
    (.cons (.set 6 (.bin .add (.call i__law_word (.cons (.var 0) .nil)) (.bi .str (.cons (.bin .mod (.call i__law_take (.cons (.var 0) .nil)) (.int 30)) .nil))))
    .nil)
    .nil)
  (.cons (.ifS (.cmp .nmem (.var 6) (.var 4))
    (.cons (.expr (.bm .append (.var 4) (.cons (.var 6) .nil)))
    .nil)
    .nil)
  .nil)))
def b__law_rows_c1 : Ex :=
  (.call i__law_a_cell (.cons (.var 0) (.cons (.var 8) (.cons (.var 2) .nil))))
def b__law_rows_c2 : Ex :=
  (.tupE (.cons (.var 6) (.cons (.bi .tuple (.cons (.lc b__law_rows_c1 (.many [7, 8]) (.seq (.idx (.var 1) (.int 2))) .nil [7, 8]) .nil)) .nil)))
def b__law_rows : Sms :=
  (.cons (.set 4 (.box (.lstE .nil)))
  (.cons (.forS (.one 5) (.rng1 (.bin .mod (.call i__law_take (.cons (.var 0) .nil)) (.bin .add (.var 3) (.int 1)))) b__law_rows_l1)
  (.cons (.ret (.bi .tuple (.cons (.lc b__law_rows_c2 (.one 6) (.seq (.bi .sorted (.cons (.var 4) .nil))) .nil [6]) .nil)))
  .nil)))
def f__law_rows : Fn := { name := "_law_rows", np := 4, N := n__law_rows, body := b__law_rows }
/-! _law_pair(rule, cells): 0=rule 1=cells 2=members 3=cell -/
abbrev s13 : Stmt := topS 18
def n__law_pair : List Str := ["rule", "cells", "members", "cell"]
def b__law_pair_l1 : Sms :=
  (.cons (.ifS (.cmp .eq (.var 0) (.str (S [108, 111, 116])))
    (.cons (.set 2 (.box (.bin .add (.var 2) (.bi .list (.cons (.var 3) .nil)))))
    .nil)
    (.cons (.ifS (.cmp .eq (.var 0) (.str (S [115, 104, 97, 114, 101])))
      (.cons (.expr (.bm .append (.var 2) (.cons (.bi .sum (.cons (.var 3) .nil)) .nil)))
      .nil)
      (.cons (.expr (.bm .append (.var 2) (.cons (.var 3) .nil)))
      .nil))
    .nil))
  .nil)
def b__law_pair : Sms :=
  (.cons (.set 2 (.box (.lstE .nil)))
  (.cons (.forS (.one 3) (.seq (.var 1)) b__law_pair_l1)
  (.cons (.ifS (.cmp .eq (.var 2) (.lstE .nil))
    (.cons (.ret .non)
    .nil)
    .nil)
  (.cons (.set 2 (.box (.bi .sorted (.cons (.var 2) .nil))))
  (.cons (.ret (.tupE (.cons (.idx (.var 2) (.int 0)) (.cons (.idx (.var 2) (.neg (.int 1))) .nil))))
  .nil)))))
def f__law_pair : Fn := { name := "_law_pair", np := 2, N := n__law_pair, body := b__law_pair }
/-! law(script): 0=script 1=d 2=stations 3=table 4=rows 5=limit 6=told 7=whole 8=k 9=pairs 10=c 11=key 12=row -/
abbrev s14 : Stmt := topS 19
def n_law : List Str := ["script", "d", "stations", "table", "rows", "limit", "told", "whole", "k", "pairs", "c", "key", "row"]
def b_law_c1 : Ex :=
  (.idx (.var 12) (.var 10))
def b_law_l1 : Sms :=
  (.cons (.expr (.bm .append (.var 9) (.cons (.call i__law_pair (.cons (.idx (.idx (.idx (.var 3) (.int 2)) (.var 10)) (.int 1)) (.cons (.lc b_law_c1 (.many [11, 12]) (.seq (.idx (.var 6) (.var 8))) .nil [11, 12]) .nil))) .nil)))
  .nil)
def b_law_l2 : Sms :=
  (.cons (.set 7 (.bin .add (.var 7) (.idx (.var 6) (.var 8))))
  (.cons (.ifS (.andE (.cons (.cmp .ne (.bi .len (.cons (.idx (.var 6) (.var 8)) .nil)) (.var 5)) (.cons (.orE (.cons (.cmp .lt (.bin .add (.var 8) (.int 1)) (.bi .len (.cons (.var 6) .nil))) (.cons (.cmp .gt (.bi .len (.cons (.idx (.var 6) (.var 8)) .nil)) (.var 5)) (.cons (.cmp .eq (.idx (.var 6) (.var 8)) (.tupE .nil)) .nil)))) .nil)))
    (.cons (.ret (.bool false))
    .nil)
    .nil)
  (.cons (.set 9 (.box (.lstE .nil)))
  (.cons (.forS (.one 10) (.rng1 (.bi .len (.cons (.idx (.var 3) (.int 2)) .nil))) b_law_l1)
  (.cons (.ifS (.cmp .ne (.call i_statistics (.cons (.var 3) (.cons (.idx (.var 6) (.var 8)) .nil))) (.tupE (.cons (.bi .len (.cons (.idx (.var 6) (.var 8)) .nil)) (.cons (.idx (.idx (.idx (.var 6) (.var 8)) (.int 0)) (.int 0)) (.cons (.idx (.idx (.idx (.var 6) (.var 8)) (.neg (.int 1))) (.int 0)) (.cons (.bi .tuple (.cons (.var 9) .nil)) .nil))))))
    (.cons (.ret (.bool false))
    .nil)
    .nil)
  .nil)))))
def b_law_l3 : Sms :=
  (.cons (.set 4 (.call i__law_rows (.cons (.var 1) (.cons (.var 3) (.cons (.var 2) (.cons (.int 20) .nil))))))
  (.cons (.set 5 (.bin .add (.int 1) (.bin .mod (.call i__law_take (.cons (.var 1) .nil)) (.int 25))))
  (.cons (.set 6 (.call i_parts (.cons (.var 4) (.cons (.var 5) .nil))))
  (.cons (.set 7 (.tupE .nil))
  (.cons (.forS (.one 8) (.rng1 (.bi .len (.cons (.var 6) .nil))) b_law_l2)
  (.cons (.ifS (.orE (.cons (.nt (.bi .isinst (.cons (.var 6) (.cons (.tyE "tuple") .nil)))) (.cons (.cmp .ne (.var 7) (.var 4)) .nil)))
    (.cons (.ret (.bool false))
    .nil)
    .nil)
  .nil))))))
def b_law : Sms :=
  (.cons (.set 1 (.call i__law_start (.cons (.var 0) .nil)))
  (.cons (.set 2 (.bin .add (.int 1) (.bin .mod (.call i__law_take (.cons (.var 1) .nil)) (.int 4))))
  (.cons (.forS (.one 3) (.seq (.call i__law_schema (.cons (.var 1) .nil))) b_law_l3)
  (.cons (.ret (.bool true))
  .nil))))
def f_law : Fn := { name := "law", np := 1, N := n_law, body := b_law }
def G : Prog := ⟨[f_sum_of, f_pair_of, f_statistics, f_parts, f__law_draws, f__law_take, f__law_start, f__law_drawn, f__law_widen, f__law_schema, f__law_word, f__law_a_cell, f__law_rows, f__law_pair, f_law], [], [], []⟩
theorem sc0 : FnScope n_sum_of ["rule", "cell"] (defScope s0) := ⟨rfl, rfl, rfl, by decide +kernel, rfl, by decide +kernel, by decide +kernel⟩
theorem em0 : emSs G n_sum_of (defScope s0) b_sum_of (defBody s0) = true := by decide +kernel
theorem sc1 : FnScope n_pair_of ["rule", "cells"] (defScope s1) := ⟨rfl, rfl, rfl, by decide +kernel, rfl, by decide +kernel, by decide +kernel⟩
theorem em1 : emSs G n_pair_of (defScope s1) b_pair_of (defBody s1) = true := by decide +kernel
theorem sc2 : FnScope n_statistics ["table", "rows"] (defScope s2) := ⟨rfl, rfl, rfl, by decide +kernel, rfl, by decide +kernel, by decide +kernel⟩
theorem em2 : emSs G n_statistics (defScope s2) b_statistics (defBody s2) = true := by decide +kernel
theorem sc3 : FnScope n_parts ["rows", "limit"] (defScope s3) := ⟨rfl, rfl, rfl, by decide +kernel, rfl, by decide +kernel, by decide +kernel⟩
theorem em3 : emSs G n_parts (defScope s3) b_parts (defBody s3) = true := by decide +kernel
theorem sc4 : FnScope n__law_draws ["script", "many"] (defScope s4) := ⟨rfl, rfl, rfl, by decide +kernel, rfl, by decide +kernel, by decide +kernel⟩
theorem em4 : emSs G n__law_draws (defScope s4) b__law_draws (defBody s4) = true := by decide +kernel
theorem sc5 : FnScope n__law_take ["d"] (defScope s5) := ⟨rfl, rfl, rfl, by decide +kernel, rfl, by decide +kernel, by decide +kernel⟩
theorem em5 : emSs G n__law_take (defScope s5) b__law_take (defBody s5) = true := by decide +kernel
theorem sc6 : FnScope n__law_start ["script"] (defScope s6) := ⟨rfl, rfl, rfl, by decide +kernel, rfl, by decide +kernel, by decide +kernel⟩
theorem em6 : emSs G n__law_start (defScope s6) b__law_start (defBody s6) = true := by decide +kernel
theorem sc7 : FnScope n__law_drawn ["d", "signs", "least", "most"] (defScope s7) := ⟨rfl, rfl, rfl, by decide +kernel, rfl, by decide +kernel, by decide +kernel⟩
theorem em7 : emSs G n__law_drawn (defScope s7) b__law_drawn (defBody s7) = true := by decide +kernel
theorem sc8 : FnScope n__law_widen ["d"] (defScope s8) := ⟨rfl, rfl, rfl, by decide +kernel, rfl, by decide +kernel, by decide +kernel⟩
theorem em8 : emSs G n__law_widen (defScope s8) b__law_widen (defBody s8) = true := by decide +kernel
theorem sc9 : FnScope n__law_schema ["d"] (defScope s9) := ⟨rfl, rfl, rfl, by decide +kernel, rfl, by decide +kernel, by decide +kernel⟩
theorem em9 : emSs G n__law_schema (defScope s9) b__law_schema (defBody s9) = true := by decide +kernel
theorem sc10 : FnScope n__law_word ["d"] (defScope s10) := ⟨rfl, rfl, rfl, by decide +kernel, rfl, by decide +kernel, by decide +kernel⟩
theorem em10 : emSs G n__law_word (defScope s10) b__law_word (defBody s10) = true := by decide +kernel
theorem sc11 : FnScope n__law_a_cell ["d", "rule", "stations"] (defScope s11) := ⟨rfl, rfl, rfl, by decide +kernel, rfl, by decide +kernel, by decide +kernel⟩
theorem em11 : emSs G n__law_a_cell (defScope s11) b__law_a_cell (defBody s11) = true := by decide +kernel
theorem sc12 : FnScope n__law_rows ["d", "table", "stations", "most"] (defScope s12) := ⟨rfl, rfl, rfl, by decide +kernel, rfl, by decide +kernel, by decide +kernel⟩
theorem em12 : emSs G n__law_rows (defScope s12) b__law_rows (defBody s12) = true := by decide +kernel
theorem sc13 : FnScope n__law_pair ["rule", "cells"] (defScope s13) := ⟨rfl, rfl, rfl, by decide +kernel, rfl, by decide +kernel, by decide +kernel⟩
theorem em13 : emSs G n__law_pair (defScope s13) b__law_pair (defBody s13) = true := by decide +kernel
theorem sc14 : FnScope n_law ["script"] (defScope s14) := ⟨rfl, rfl, rfl, by decide +kernel, rfl, by decide +kernel, by decide +kernel⟩
theorem em14 : emSs G n_law (defScope s14) b_law (defBody s14) = true := by decide +kernel
end Law

set_option Elab.async false
set_option linter.all false
set_option maxRecDepth 100000
set_option maxHeartbeats 800000
namespace Law
open Ev PySem L2
/-! ### draws from a cell that is widened -/
def okC (c : Nat) : Prop := (32 ≤ c ∧ c ≤ 36) ∨ (38 ≤ c ∧ c ≤ 126)
def okW (w : Str) : Prop := w.length ≤ 40 ∧ ∀ c ∈ w.cps.toList, okC c
/-- a name: of at most twenty letters -/
def okNm (w : Str) : Prop := 1 ≤ w.length ∧ w.length ≤ 20 ∧ ∀ c ∈ w.cps.toList, 97 ≤ c ∧ c ≤ 122
def zs (ns : List Int) : List D := ns.map D.int
abbrev kW1 : Key := .inr (S [119, 105, 100, 101])
abbrev kW2 : Key := .inr (S [110, 97, 109, 101, 115])
abbrev kW3 : Key := .inr (S [119, 111, 114, 100, 115])
abbrev kW4 : Key := .inr (S [107, 101, 121, 115])
abbrev kW5 : Key := .inr (S [115, 105, 122, 101, 115])
structure Wd where
  wide : Bool
  names : List Str
  words : List Str
  kw : List Str
  kn : List Int
  sizes : List Int
structure WdOk (W : Wd) : Prop where
  nl : W.names.length = 9
  nd : W.names.Nodup
  nm : ∀ x ∈ W.names, okNm x
  wl : W.words.length = 5
  wo : ∀ x ∈ W.words, okW x
  kl : W.kw.length = 5
  ko : ∀ x ∈ W.kw, okW x
  zl : W.kn.length = 5
  zo : ∀ x ∈ W.kn, -1000000000000000 ≤ x ∧ x ≤ 1000000000000000
  sl : W.sizes.length = 6
  so : ∀ x ∈ W.sizes, 0 ≤ x ∧ x ≤ 100000000000000
def wkvs (row : List Nat) (a : Nat) (W : Wd) : List (Key × D) := [(kRow, .lst (nats row)), (kAt, .int (a : Int)), (kW1, .bl W.wide), (kW2, .ref 1), (kW3, .lst (W.words.map D.str)), (kW4, .dk [(.inr (S [119, 111, 114, 100]), .lst (W.kw.map D.str)), (.inr (S [110, 117, 109, 98, 101, 114]), .lst (zs W.kn))]), (kW5, .lst (zs W.sizes))]
def wcell (row : List Nat) (a : Nat) (W : Wd) : D := .dk (wkvs row a W)
def wnm (W : Wd) : D := .lst (W.names.map D.str)
section
variable {G : Prog} {C : Nat → List D → Sto → Out D}
theorem take_gen {fl n : Nat} {row : List Nat} {a : Nat} {st : Sto} {kvs kv2 : List (Key × D)} (h0 : row ≠ []) (h1 : row.length < 100000) (e : st[n]? = some (.dk kvs)) (g1 : dget kvs kRow = some (.lst (nats row))) (g2 : dget kvs kAt = some (.int (a : Int)))
    (g3 : dget kv2 kRow = some (.lst (nats row))) (g4 : dput kvs kAt (.int ((a : Int) + 1)) = kv2) (hs : kvs.length < SZ) :
    evSs G C fl bTake [some (.ref n), none] st = .ret (.int (tk row a)) (st.set n (.dk kv2)) := by
  have hn : n < st.length := (List.getElem?_eq_some_iff.mp e).1
  have hl : 0 < row.length := List.length_pos_iff.mpr h0
  have e2 : (st.set n (.dk kv2))[n]? = some (.dk kv2) := by
    rw [List.getElem?_set_self hn]
  have hp : putD fl (.ref n) (.str (S [97, 116])) (.int ((a : Int) + 1)) st = some (st.set n (.dk kv2)) := by
    unfold putD
    dsimp only
    rw [e]
    dsimp only [keyD]
    rw [if_pos ⟨hs, by unfold wrOk; simp [D.lo]⟩]
    rw [← g4]
  have hat : atI (nats row) ((a : Int) % row.length) = some (.int (row.getD (a % row.length) 0 : Nat)) := by
    have hlt : a % row.length < row.length := Nat.mod_lt _ hl
    rw [atI_of (Int.emod_nonneg _ (by omega)), show ((a : Int) % row.length).toNat = a % row.length by omega]
    simp [nats, hlt, List.getD_eq_getElem?_getD]
  have hd : divOk (row.length : Int) = true := by
    unfold divOk
    have : Nat.log2 row.length < 9000 := by
      have := Nat.log2_lt (n := row.length) (k := 17) (by omega)
      have := this.mpr (by omega)
      omega
    simp [hl, this]
  unfold bTake
  simp only [ss_cons, ss_nil, s_set, s_put, s_ret, e_idx, e_var, e_str, e_bin, e_int, e_bi, es_cons, es_nil, List.getElem?_cons_zero, List.getElem?_cons_succ, Out.bind_ok, idx_ref, e, Option.getD_some, keyD_str, Option.bind_some, g2, lift_some, Out.thenS_ok, List.set_cons_succ, List.set_cons_zero, OutS.seq_next, bin_add, hp, e2, g1, g3]
  simp only [ss_cons, ss_nil, s_set, s_put, s_ret, e_idx, e_var, e_str, e_bin, e_int, e_bi, es_cons, es_nil, List.getElem?_cons_zero, List.getElem?_cons_succ, Out.bind_ok, idx_ref, e2, Option.getD_some, keyD_str, Option.bind_some, g3, lift_some, Out.thenS_ok, OutS.seq_next, Ev.bi_len, view_lst, bin_mod, nats_len, Int.natCast_pos.mpr hl, if_true, bin_fdiv, hd, idx_lst, hat, bin_add, OutS.seq_ret]
  rfl
end
section
variable {k fl : Nat} {rw : List Nat} {a : Nat} {W : Wd} {e : Sto}
theorem w_take (hr : rw.length = 400) : run G (k + 1) fl i__law_take [.ref 0] (wcell rw a W :: e) = .ok (.int (tk rw a)) (wcell rw (a + 1) W :: e) := by
  have q := run_popS (G := G) (k := k) (fl := fl) (F := f__law_take) (f := i__law_take) (ds := [.ref 0]) (st := wcell rw a W :: e) (st' := wcell rw (a + 1) W :: e) (d := .int (tk rw a)) (d' := .int (tk rw a)) rfl rfl rfl (by
    exact take_gen (n := 0) (row := rw) (a := a) (st := wcell rw a W :: e) (kvs := wkvs rw a W) (kv2 := wkvs rw (a + 1) W) (by intro z; rw [z] at hr; cases hr) (by omega) rfl rfl rfl rfl rfl (by show 7 < SZ; decide)) rfl
  rw [q]
  simp
theorem w_get (kk : Str) : idxD (wcell rw a W :: e) (.ref 0) (.str kk) = dget (wkvs rw a W) (.inr kk) := rfl
theorem w_wide : idxD (wcell rw a W :: e) (.ref 0) (.str (S [119, 105, 100, 101])) = some (.bl W.wide) := rfl
theorem w_names : idxD (wcell rw a W :: e) (.ref 0) (.str (S [110, 97, 109, 101, 115])) = some (.ref 1) := rfl
theorem w_words : idxD (wcell rw a W :: e) (.ref 0) (.str (S [119, 111, 114, 100, 115])) = some (.lst (W.words.map D.str)) := rfl
theorem w_keys : idxD (wcell rw a W :: e) (.ref 0) (.str (S [107, 101, 121, 115])) = some (.dk [(.inr (S [119, 111, 114, 100]), .lst (W.kw.map D.str)), (.inr (S [110, 117, 109, 98, 101, 114]), .lst (zs W.kn))]) := rfl
theorem w_sizes : idxD (wcell rw a W :: e) (.ref 0) (.str (S [115, 105, 122, 101, 115])) = some (.lst (zs W.sizes)) := rfl
theorem w_take0 (hr : rw.length = 400) : run G (k + 1) fl i__law_take [.ref 0] (dcell rw a :: e) = .ok (.int (tk rw a)) (dcell rw (a + 1) :: e) := by
  rw [run_take (F := f__law_take) (n := 0) rfl rfl rfl rfl rfl (by intro z; rw [z] at hr; cases hr) (by omega) rfl]
  rfl
theorem pickS {ss : List Str} {t n : Nat} (hn : ss.length = n) (h0 : 0 < n) : ∃ s, atI (ss.map D.str) ((t : Int) % (n : Int)) = some (.str s) ∧ s ∈ ss := by
  obtain ⟨v, h1, h2⟩ := pick (xs := ss.map D.str) (t := t) (n := n) (by rw [List.length_map]; exact hn) h0
  obtain ⟨s, hs, rfl⟩ := List.mem_map.mp h2
  exact ⟨s, h1, hs⟩
theorem wsg_texts {st : Sto} (l : List Nat) : textsOf st (.lst (l.map fun c => D.str ⟨#[c]⟩)) = some (l.map fun c => (⟨#[c]⟩ : Str)) := by
  show toStrs (l.map fun c => D.str ⟨#[c]⟩) = _
  induction l with
  | nil => rfl
  | cons c r ih => show (toStrs (r.map fun c => D.str ⟨#[c]⟩)).map _ = _; rw [ih]; rfl
theorem wjoin_signs : ∀ l : List Nat, Str.join (S []) (l.map fun c => (⟨#[c]⟩ : Str)) = ⟨l.toArray⟩
  | [] => rfl
  | [c] => rfl
  | c :: d :: r => by
    have ih := wjoin_signs (d :: r)
    show (⟨#[c]⟩ : Str) ++ S [] ++ Str.join (S []) ((d :: r).map fun c => (⟨#[c]⟩ : Str)) = _
    rw [ih]
    show (⟨(#[c] ++ #[]) ++ (d :: r).toArray⟩ : Str) = _
    simp
theorem wones_sum (l : List Nat) : ((l.map fun c => (⟨#[c]⟩ : Str)).map (·.length)).sum = l.length := by
  induction l with
  | nil => rfl
  | cons c r ih => rw [List.map_cons, List.map_cons, List.sum_cons, ih, List.length_cons]; show 1 + r.length = _; omega
/-- a word of drawn signs -/
theorem w_drawn {sg : Str} {lo hi : Nat} {L : Nat} (hr : rw.length = 400) (hL : sg.length = L) (h0 : 0 < L) (h1 : L ≤ 1000) (hlh : lo ≤ hi) (h100 : hi ≤ 100) :
    ∃ (w : Str), run G (k + 2) fl i__law_drawn [.ref 0, .str sg, .int (lo : Int), .int (hi : Int)] (wcell rw a W :: e) = .ok (.str w) (wcell rw (a + 1 + 1 + 1) W :: e) ∧ lo ≤ w.length ∧ w.length ≤ hi ∧ ∀ c ∈ w.cps.toList, c ∈ sg.cps.toList := by
  have hz : SZ = 16777216 := rfl
  obtain ⟨m, hm⟩ : ∃ m : Nat, lo + tk rw (a + 1 + 1) % (hi - lo + 1) = m := ⟨_, rfl⟩
  have hlt := Nat.mod_lt (tk rw (a + 1 + 1)) (show 0 < hi - lo + 1 by omega)
  have hm' : (lo : Int) + (tk rw (a + 1 + 1) : Int) % ((hi : Int) - (lo : Int) + 1) = (m : Int) := by
    rw [← hm, show (hi : Int) - (lo : Int) + 1 = ((hi - lo + 1 : Nat) : Int) by omega]
    simp
  have hp : (0 : Int) < (hi : Int) - (lo : Int) + 1 := by omega
  have sm : small62 (m : Int) = true := small62_n (by omega)
  have lm : ((m : Int) - 0).toNat ≤ SZ := by omega
  have hlen : ∀ st : Sto, biD st .len [.str sg] = some (.int (L : Int)) := fun st => by
    show (if sg.length ≤ SZ then _ else _) = _
    rw [if_pos (by omega), hL]
  obtain ⟨ds, st', e1, l, q1, q2, q3, q4⟩ := lcGo_inv (f := lb G (run G (k + 1) (e.length + 1)) (e.length + 1) [some (.ref 0), some (.str sg), some (.int (lo : Int)), some (.int (hi : Int)), some (.int (tk rw a)), some (.int (tk rw (a + 1))), some (.int (m : Int)), none] [7] (.one 7) .nil b__law_drawn_c1) (xs := rng 0 (m : Int)) (fun i ds st => ∃ l : List Nat, ds = l.map (fun c => D.str ⟨#[c]⟩) ∧ st = (wcell rw (a + 1 + 1 + 1) W :: e) ∧ l.length = i ∧ ∀ c ∈ l, c ∈ sg.cps.toList) (st := (wcell rw (a + 1 + 1 + 1) W :: e)) ⟨[], rfl, rfl, rfl, by simp⟩ (by
    intro i x hx ds st ⟨l, q1, q2, q3, q4⟩
    obtain ⟨hi2, rfl⟩ := rng_get hx
    subst q1 q2
    rw [Int.zero_add]
    obtain ⟨j, hj⟩ : ∃ j : Nat, (tk rw a + tk rw (a + 1) * i) % L = j := ⟨_, rfl⟩
    have hjL : j < sg.cps.toList.length := by
      rw [Array.length_toList, ← hj]
      show _ < sg.length
      rw [hL]
      exact Nat.mod_lt _ h0
    have hj' : ((tk rw a : Int) + (tk rw (a + 1) : Int) * (i : Int)) % (L : Int) = (j : Int) := by rw [← hj]; simp
    have hmul : mulOk (tk rw (a + 1) : Int) (i : Int) = true := mulOk_of (.inr (by
      have : i < 101 := by omega
      have h2 : (2 : Int) ^ 64 = 18446744073709551616 := by decide
      rw [h2]
      omega))
    have hat : ∀ st, idxD st (.str sg) (.int (j : Int)) = some (.str ⟨#[sg.cps.toList[j]]⟩) := fun st => by
      unfold idxD
      rw [view_str]
      dsimp only
      rw [if_pos (by omega), atI_of (by omega), Int.toNat_natCast, List.getElem?_eq_getElem hjL]
      rfl
    refine ⟨some (.str ⟨#[sg.cps.toList[j]]⟩), _, ?_, l ++ [sg.cps.toList[j]], by simp, rfl, by simp [q3], fun c hc => ?_⟩
    · unfold b__law_drawn_c1
      simp only [ss_cons, ss_nil, s_set, s_sets, s_put, s_expr, s_ret, s_retN, s_if, s_for1, s_for2, s_for3, s_for4, s_for5, s_brk, s_cont, s_raise, fb_one, fb_many, fb_manyK, lb_one, lb_many, e_non, e_bool, e_int, e_str, e_var, e_gf, e_tyE, e_bin, e_neg, e_nt, e_and, e_or, e_cmp, e_chain, e_isN, e_notN, e_isB, e_notB, e_call, e_bi, e_listR1, e_listR2, e_idx, e_slc, e_tupE, e_lstE, e_box, e_bm, es_nil, es_cons, et_nil, et_cons, ea_one, ea_cons, eo_one, eo_cons, ei_rng1, ei_rng2, ei_seq, ei_rev, e_lc1, e_lc2, e_lc3, e_lc4, e_lc5, e_bits, e_sset, ei_rng3, recv_index, bi_ord, bi_str, bin_mulS, bin_addS, cmp_ltS, cmp_leS, cmp_gtS, cmp_geS, eqD_str, setSlots_nil, setSlots_cons, asg_many, asg_manyK, slc_lst, slc_tup, wipeD, Out.bind_ok, Out.bind_exc, Out.noX_ok, Out.thenS_ok, Out.thenS_exc, OutS.seq_next, OutS.seq_ret, OutS.seq_exc, OutS.seq_brk, OutS.seq_cont, lift_some, List.set_cons_succ, List.set_cons_zero, List.getElem?_cons_succ, List.getElem?_cons_zero, bin_add, bin_sub, bin_mul, bin_mod, bin_fdiv, bin_pow, bin_addL, bin_addT, bin_mulL, bin_mulT, cmp_eq, cmp_ne, cmp_mem, cmp_nmem, cmp_lt, cmp_le, cmp_gt, cmp_ge, view_int, view_bl, view_lst, view_tup, view_fz, view_tk, view_str, view_dk, view_non, idx_lst, idx_tup, idx_fz, idx_tk, bi_abs, bi_int, bi_intb, bi_tuple, bi_list, bi_all, bi_any, bi_min2, bi_max2, bi_min1, bi_max1, bi_sum, bi_sorted, bi_isinst, recv_append, recv_extend, optI_nil, optI_one, Option.map_some, Option.bind_some, Bool.not_true, Bool.not_false, isNon_non, eqD_int, eqD_bl, decide_true, decide_false, if_true, if_false, Bool.false_eq_true, reduceIte, true_or, or_true, or_self, false_or, or_false, true_and, and_true, false_and, and_false, and_self, nats_len, rng_len, isC, OutS.turn_next, OutS.turn_ret, OutS.turn_cont, OutS.turn_brk, OutS.turn_exc, kt_NoneType_int, kt_NoneType_str, kt_NoneType_list, kt_NoneType_tuple, kt_NoneType_dict, kt_NoneType_bool, kt_bool_int, kt_bool_str, kt_bool_list, kt_bool_tuple, kt_bool_dict, kt_bool_bool, kt_int_int, kt_int_str, kt_int_list, kt_int_tuple, kt_int_dict, kt_int_bool, kt_str_int, kt_str_str, kt_str_list, kt_str_tuple, kt_str_dict, kt_str_bool, kt_list_int, kt_list_str, kt_list_list, kt_list_tuple, kt_list_dict, kt_list_bool, kt_tuple_int, kt_tuple_str, kt_tuple_list, kt_tuple_tuple, kt_tuple_dict, kt_tuple_bool, kt_dict_int, kt_dict_str, kt_dict_list, kt_dict_tuple, kt_dict_dict, kt_dict_bool, ty_non, ty_bl, ty_int, ty_str, ty_tup, ty_tk, ty_lst, ty_fz, isNon_bl, isNon_int, isNon_str, isNon_tupl, isNon_lstl, at0, at1, at2, at3, Int.reduceEq, Int.reduceLT, Int.reduceLE, Int.reduceSub, Int.reduceAdd, Int.reduceMul, List.length_cons, List.length_nil, List.length_append, Nat.zero_add, hlen, hmul, show (0 : Int) < (L : Int) by omega, hj', hat]
    · rcases List.mem_append.mp hc with h | h
      · exact q4 c h
      · rw [List.mem_singleton.mp h]; exact List.getElem_mem hjL)
  subst q1 q2
  rw [rng_len] at q3
  have hj := bm_join (fl := e.length + 1) (st := (wcell rw (a + 1 + 1 + 1) W :: e)) (a := S []) (wsg_texts l) (by
    rw [wones_sum]
    show l.length + _ * 0 ≤ SZ
    omega)
  rw [wjoin_signs] at hj
  have hwl : (⟨l.toArray⟩ : Str).length = l.length := by show l.toArray.size = _; simp
  refine ⟨⟨l.toArray⟩, ?_, by rw [hwl]; omega, by rw [hwl]; omega, fun c hc => q4 c (by simpa using hc)⟩
  have q := run_popS (G := G) (k := k + 1) (fl := fl) (F := f__law_drawn) (f := i__law_drawn) (ds := [.ref 0, .str sg, .int (lo : Int), .int (hi : Int)]) (st := wcell rw a W :: e) (st' := wcell rw (a + 1 + 1 + 1) W :: e) (d := .str ⟨l.toArray⟩) (d' := .str ⟨l.toArray⟩) rfl rfl rfl (by
    show evSs G (run G (k + 1) (e.length + 1)) (e.length + 1) b__law_drawn [some (.ref 0), some (.str sg), some (.int (lo : Int)), some (.int (hi : Int)), none, none, none, none] (wcell rw a W :: e) = _
    unfold b__law_drawn
    simp only [ss_cons, ss_nil, s_set, s_sets, s_put, s_expr, s_ret, s_retN, s_if, s_for1, s_for2, s_for3, s_for4, s_for5, s_brk, s_cont, s_raise, fb_one, fb_many, fb_manyK, lb_one, lb_many, e_non, e_bool, e_int, e_str, e_var, e_gf, e_tyE, e_bin, e_neg, e_nt, e_and, e_or, e_cmp, e_chain, e_isN, e_notN, e_isB, e_notB, e_call, e_bi, e_listR1, e_listR2, e_idx, e_slc, e_tupE, e_lstE, e_box, e_bm, es_nil, es_cons, et_nil, et_cons, ea_one, ea_cons, eo_one, eo_cons, ei_rng1, ei_rng2, ei_seq, ei_rev, e_lc1, e_lc2, e_lc3, e_lc4, e_lc5, e_bits, e_sset, ei_rng3, recv_index, idx_str, bi_ord, bi_str, bin_mulS, bin_addS, cmp_ltS, cmp_leS, cmp_gtS, cmp_geS, eqD_str, setSlots_nil, setSlots_cons, asg_many, asg_manyK, slc_lst, slc_tup, wipeD, Out.bind_ok, Out.bind_exc, Out.noX_ok, Out.thenS_ok, Out.thenS_exc, OutS.seq_next, OutS.seq_ret, OutS.seq_exc, OutS.seq_brk, OutS.seq_cont, lift_some, List.set_cons_succ, List.set_cons_zero, List.getElem?_cons_succ, List.getElem?_cons_zero, bin_add, bin_sub, bin_mul, bin_mod, bin_fdiv, bin_pow, bin_addL, bin_addT, bin_mulL, bin_mulT, cmp_eq, cmp_ne, cmp_mem, cmp_nmem, cmp_lt, cmp_le, cmp_gt, cmp_ge, view_int, view_bl, view_lst, view_tup, view_fz, view_tk, view_str, view_dk, view_non, idx_lst, idx_tup, idx_fz, idx_tk, Ev.bi_len, bi_abs, bi_int, bi_intb, bi_tuple, bi_list, bi_all, bi_any, bi_min2, bi_max2, bi_min1, bi_max1, bi_sum, bi_sorted, bi_isinst, recv_append, recv_extend, optI_nil, optI_one, Option.map_some, Option.bind_some, Bool.not_true, Bool.not_false, isNon_non, eqD_int, eqD_bl, decide_true, decide_false, if_true, if_false, Bool.false_eq_true, reduceIte, true_or, or_true, or_self, false_or, or_false, true_and, and_true, false_and, and_false, and_self, nats_len, rng_len, isC, OutS.turn_next, OutS.turn_ret, OutS.turn_cont, OutS.turn_brk, OutS.turn_exc, kt_NoneType_int, kt_NoneType_str, kt_NoneType_list, kt_NoneType_tuple, kt_NoneType_dict, kt_NoneType_bool, kt_bool_int, kt_bool_str, kt_bool_list, kt_bool_tuple, kt_bool_dict, kt_bool_bool, kt_int_int, kt_int_str, kt_int_list, kt_int_tuple, kt_int_dict, kt_int_bool, kt_str_int, kt_str_str, kt_str_list, kt_str_tuple, kt_str_dict, kt_str_bool, kt_list_int, kt_list_str, kt_list_list, kt_list_tuple, kt_list_dict, kt_list_bool, kt_tuple_int, kt_tuple_str, kt_tuple_list, kt_tuple_tuple, kt_tuple_dict, kt_tuple_bool, kt_dict_int, kt_dict_str, kt_dict_list, kt_dict_tuple, kt_dict_dict, kt_dict_bool, ty_non, ty_bl, ty_int, ty_str, ty_tup, ty_tk, ty_lst, ty_fz, isNon_bl, isNon_int, isNon_str, isNon_tupl, isNon_lstl, at0, at1, at2, at3, Int.reduceEq, Int.reduceLT, Int.reduceLE, Int.reduceSub, Int.reduceAdd, Int.reduceMul, List.length_cons, List.length_nil, List.length_append, Nat.zero_add, w_take (k := k) hr, hp, hm', sm, lm, e1, recv_join, hj]) rfl
  rw [q]
  simp
end
/-! ### the cell is widened -/
def ltrs : Str := (S [97, 98, 99, 100, 101, 102, 103, 104, 105, 106, 107, 108, 109, 110, 111, 112, 113, 114, 115, 116, 117, 118, 119, 120, 121, 122])
def sgn58 : Str := (S [97, 98, 99, 100, 101, 102, 103, 104, 105, 106, 107, 108, 109, 110, 111, 112, 113, 114, 115, 116, 117, 118, 119, 120, 121, 122, 32, 126, 33, 64, 35, 36, 94, 38, 42, 40, 41, 43, 61, 91, 93, 123, 125, 124, 59, 58, 44, 46, 60, 62, 63, 47, 65, 90, 48, 57, 95, 45])
theorem ltrs_ok : ∀ c ∈ ltrs.cps.toList, 97 ≤ c ∧ c ≤ 122 := by decide
theorem sgn58_ok : ∀ c ∈ sgn58.cps.toList, okC c := by
  have h : ∀ c ∈ sgn58.cps.toList, ((decide (32 ≤ c) && decide (c ≤ 36)) || (decide (38 ≤ c) && decide (c ≤ 126))) = true := by decide +kernel
  intro c hc
  have h2 := h c hc
  simp only [Bool.or_eq_true, Bool.and_eq_true, decide_eq_true_eq] at h2
  exact h2
def okNmB (w : Str) : Bool := decide (1 ≤ w.length) && decide (w.length ≤ 20) && w.cps.toList.all fun c => decide (97 ≤ c) && decide (c ≤ 122)
theorem okNm_of {w : Str} (h : okNmB w = true) : okNm w := by
  unfold okNmB at h
  simp only [Bool.and_eq_true, decide_eq_true_eq, List.all_eq_true] at h
  exact ⟨h.1.1, h.1.2, h.2⟩
def okWB (w : Str) : Bool := decide (w.length ≤ 40) && w.cps.toList.all fun c => (decide (32 ≤ c) && decide (c ≤ 36)) || (decide (38 ≤ c) && decide (c ≤ 126))
theorem okW_of {w : Str} (h : okWB w = true) : okW w := by
  unfold okWB at h
  rw [Bool.and_eq_true, decide_eq_true_eq, List.all_eq_true] at h
  refine ⟨h.1, fun c hc => ?_⟩
  have h2 := h.2 c hc
  simp only [Bool.or_eq_true, Bool.and_eq_true, decide_eq_true_eq] at h2
  exact h2
def names0 : List Str := [(S [97]), (S [116, 97, 98]), (S [122]), (S [119]), (S [110]), (S [115]), (S [109]), (S [108]), (S [104])]
def W0 (b : Bool) : Wd := ⟨b, names0, [(S []), (S [120]), (S [121, 121]), (S [97, 32, 119, 111, 114, 100]), (S [122, 57])], [(S []), (S [97]), (S [98]), (S [107, 101, 121]), (S [126, 32, 122])], [0, 1, 2, 3, -7], [0, 1, 2, 5, 9, 40]⟩
theorem W0_ok (b : Bool) : WdOk (W0 b) where
  nl := rfl
  nd := by show names0.Nodup; decide
  nm := fun x hx => okNm_of ((show ∀ x ∈ names0, okNmB x = true by decide +kernel) x hx)
  wl := rfl
  wo := fun x hx => okW_of ((show ∀ x ∈ [(S []), (S [120]), (S [121, 121]), (S [97, 32, 119, 111, 114, 100]), (S [122, 57])], okWB x = true by decide +kernel) x hx)
  kl := rfl
  ko := fun x hx => okW_of ((show ∀ x ∈ [(S []), (S [97]), (S [98]), (S [107, 101, 121]), (S [126, 32, 122])], okWB x = true by decide +kernel) x hx)
  zl := rfl
  zo := by show ∀ x ∈ ([0, 1, 2, 3, -7] : List Int), _; decide
  sl := rfl
  so := by show ∀ x ∈ ([0, 1, 2, 5, 9, 40] : List Int), _; decide
section
variable {C : Nat → List D → Sto → Out D} {ρ : Ev.Env} {st e : Sto}
theorem s_putk {i : Nat} {s : Str} {v : Ex} {d : D} {kvs kv2 : List (Key × D)} (hv : evE G C 0 ρ v st = .ok d (.dk kvs :: e)) (hi : ρ[i]? = some (some (.ref 0))) (hk : kvs.length < SZ) (hd : dput kvs (.inr s) d = kv2) : evS G C 0 (.put (.var i) (.str s) v) ρ st = .next ρ (.dk kv2 :: e) := by
  rw [s_put, hv, Out.thenS_ok, e_var, hi, Out.thenS_ok, e_str, Out.thenS_ok]
  have hp : putD 0 (.ref 0) (.str s) d (.dk kvs :: e) = some (.dk kv2 :: e) := by
    show (if kvs.length < SZ ∧ wrOk 0 0 d = true then some _ else none) = _
    rw [if_pos ⟨hk, by unfold wrOk; simp⟩, hd]
    rfl
  rw [hp]
theorem wr0 {n : Nat} {d : D} : wrOk 0 n d = true := by unfold wrOk; simp
theorem okNs_str {n : Nat} : ∀ l : List Str, okNs n (l.map D.str) = true
  | [] => by simp [okNs]
  | x :: r => by rw [List.map_cons, okNs, okNs_str r]; simp [okN]
theorem any_strs {ss : List Str} {s : Str} : ((ss.map D.str).any fun x => eqv x (.str s)) = decide (s ∈ ss) := by
  induction ss with
  | nil => rfl
  | cons x xs ih =>
    rw [List.map_cons, List.any_cons, ih]
    simp only [eqv, List.mem_cons, Bool.decide_or, eq_comm]
theorem mem_strsV {d : D} {ss : List Str} {s : Str} (h : view st d = .lst (ss.map D.str)) : memD st (.str s) d = some (decide (s ∈ ss)) := by
  unfold memD
  rw [h]
  dsimp only
  rw [if_pos (by rw [okNs_str]; simp [okN]), any_strs]
theorem nodup_set {l : List Str} {i : Nat} {x : Str} (h : l.Nodup) (hx : x ∉ l) : (l.set i x).Nodup := by
  induction l generalizing i with
  | nil => simp
  | cons y r ih =>
    rw [List.nodup_cons] at h
    cases i with
    | zero =>
      rw [List.set_cons_zero, List.nodup_cons]
      exact ⟨fun z => hx (List.mem_cons_of_mem _ z), h.2⟩
    | succ i =>
      rw [List.set_cons_succ, List.nodup_cons]
      refine ⟨fun z => ?_, ih h.2 fun z => hx (List.mem_cons_of_mem _ z)⟩
      rcases List.mem_or_eq_of_mem_set z with z | z
      · exact h.1 z
      · exact hx (by rw [← z]; simp)
end
section
variable {k : Nat} {rw : List Nat}
theorem widen_l1 {a i : Nat} {W : Wd} {x2 x4 x5 : Option D} (hr : rw.length = 400) (hi : i < 9) (nl : W.names.length = 9) (nd : W.names.Nodup) (nm : ∀ x ∈ W.names, okNm x) :
    ∃ ns z4, evSs G (run G (k + 2) 0) 0 b__law_widen_l1 [some (.ref 0), some (.str ltrs), x2, some (.int (i : Int)), x4, x5] [wcell rw a W, wnm W] = .next [some (.ref 0), some (.str ltrs), x2, some (.int (i : Int)), z4, x5] [wcell rw (a + 1 + 1 + 1) { W with names := ns }, wnm { W with names := ns }] ∧
      ns.length = 9 ∧ ns.Nodup ∧ ∀ x ∈ ns, okNm x := by
  have hz : SZ = 16777216 := rfl
  obtain ⟨a', ha'⟩ : ∃ a', a + 1 + 1 + 1 = a' := ⟨_, rfl⟩
  obtain ⟨w, h1, h2, h3, h4⟩ := w_drawn (k := k) (fl := 0) (a := a) (W := W) (e := [wnm W]) (sg := ltrs) (lo := 0) (hi := 19) (L := 26) hr rfl (by decide) (by decide) (by decide) (by decide)
  rw [show ((0 : Nat) : Int) = 0 from rfl, show ((19 : Nat) : Int) = 19 from rfl, ha'] at h1
  rw [ha']
  have hadd : ∀ st, binD st .add (.str (S [113])) (.str w) = some (.str ((S [113]) ++ w)) := fun st => by
    rw [bin_addS]
    exact if_pos (show 1 + w.length ≤ SZ by omega)
  have hql : ((S [113]) ++ w).length = 1 + w.length := by show (#[113] ++ w.cps).size = _; rw [Array.size_append]; rfl
  have hq : okNm ((S [113]) ++ w) := by
    refine ⟨by omega, by omega, fun c hc => ?_⟩
    have hc : c ∈ (#[113] ++ w.cps).toList := hc
    rw [Array.toList_append] at hc
    rcases List.mem_append.mp hc with h | h
    · rw [List.mem_singleton.mp h]; decide
    · exact ltrs_ok c (h4 c h)
  have hv : view [wcell rw a' W, wnm W] (.ref 1) = .lst (W.names.map D.str) := rfl
  have hm := mem_strsV (s := (S [113]) ++ w) hv
  have wn := w_names (rw := rw) (a := a') (W := W) (e := [wnm W])
  by_cases hin : (S [113]) ++ w ∈ W.names
  · rw [decide_eq_true hin] at hm
    refine ⟨W.names, some (.str ((S [113]) ++ w)), ?_, nl, nd, nm⟩
    unfold b__law_widen_l1
    simp only [ss_cons, ss_nil, s_set, s_sets, s_put, s_expr, s_ret, s_retN, s_if, s_for1, s_for2, s_for3, s_for4, s_for5, s_brk, s_cont, s_raise, fb_one, fb_many, fb_manyK, lb_one, lb_many, e_non, e_bool, e_int, e_str, e_var, e_gf, e_tyE, e_bin, e_neg, e_nt, e_and, e_or, e_cmp, e_chain, e_isN, e_notN, e_isB, e_notB, e_call, e_bi, e_listR1, e_listR2, e_idx, e_slc, e_tupE, e_lstE, e_box, e_bm, es_nil, es_cons, et_nil, et_cons, ea_one, ea_cons, eo_one, eo_cons, ei_rng1, ei_rng2, ei_seq, ei_rev, e_lc1, e_lc2, e_lc3, e_lc4, e_lc5, e_bits, e_sset, ei_rng3, recv_index, idx_str, bi_ord, bi_str, bin_mulS, cmp_ltS, cmp_leS, cmp_gtS, cmp_geS, eqD_str, setSlots_nil, setSlots_cons, asg_many, asg_manyK, slc_lst, slc_tup, wipeD, Out.bind_ok, Out.bind_exc, Out.noX_ok, Out.thenS_ok, Out.thenS_exc, OutS.seq_next, OutS.seq_ret, OutS.seq_exc, OutS.seq_brk, OutS.seq_cont, lift_some, List.set_cons_succ, List.set_cons_zero, List.getElem?_cons_succ, List.getElem?_cons_zero, bin_add, bin_sub, bin_mul, bin_mod, bin_fdiv, bin_pow, bin_addL, bin_addT, bin_mulL, bin_mulT, cmp_eq, cmp_ne, cmp_mem, cmp_nmem, cmp_lt, cmp_le, cmp_gt, cmp_ge, view_int, view_bl, view_lst, view_tup, view_fz, view_tk, view_str, view_dk, view_non, idx_lst, idx_tup, idx_fz, idx_tk, Ev.bi_len, bi_abs, bi_int, bi_intb, bi_tuple, bi_list, bi_all, bi_any, bi_min2, bi_max2, bi_min1, bi_max1, bi_sum, bi_sorted, bi_isinst, recv_append, recv_extend, optI_nil, optI_one, Option.map_some, Option.bind_some, Bool.not_true, Bool.not_false, isNon_non, eqD_int, eqD_bl, decide_true, decide_false, if_true, if_false, Bool.false_eq_true, reduceIte, true_or, or_true, or_self, false_or, or_false, true_and, and_true, false_and, and_false, and_self, nats_len, rng_len, isC, OutS.turn_next, OutS.turn_ret, OutS.turn_cont, OutS.turn_brk, OutS.turn_exc, kt_NoneType_int, kt_NoneType_str, kt_NoneType_list, kt_NoneType_tuple, kt_NoneType_dict, kt_NoneType_bool, kt_bool_int, kt_bool_str, kt_bool_list, kt_bool_tuple, kt_bool_dict, kt_bool_bool, kt_int_int, kt_int_str, kt_int_list, kt_int_tuple, kt_int_dict, kt_int_bool, kt_str_int, kt_str_str, kt_str_list, kt_str_tuple, kt_str_dict, kt_str_bool, kt_list_int, kt_list_str, kt_list_list, kt_list_tuple, kt_list_dict, kt_list_bool, kt_tuple_int, kt_tuple_str, kt_tuple_list, kt_tuple_tuple, kt_tuple_dict, kt_tuple_bool, kt_dict_int, kt_dict_str, kt_dict_list, kt_dict_tuple, kt_dict_dict, kt_dict_bool, ty_non, ty_bl, ty_int, ty_str, ty_tup, ty_tk, ty_lst, ty_fz, isNon_bl, isNon_int, isNon_str, isNon_tupl, isNon_lstl, at0, at1, at2, at3, Int.reduceEq, Int.reduceLT, Int.reduceLE, Int.reduceSub, Int.reduceAdd, Int.reduceMul, List.length_cons, List.length_nil, List.length_append, Nat.zero_add, h1, hadd, wn, hm]
  · rw [decide_eq_false hin] at hm
    have hp : putD 0 (.ref 1) (.int (i : Int)) (.str ((S [113]) ++ w)) [wcell rw a' W, wnm W] = some [wcell rw a' { W with names := W.names.set i ((S [113]) ++ w) }, wnm { W with names := W.names.set i ((S [113]) ++ w) }] := by
      show (match ixN (W.names.map D.str).length (i : Int) with | some k => if wrOk 0 1 (.str ((S [113]) ++ w)) = true then some _ else none | none => none) = _
      have hix : ixN (W.names.map D.str).length (i : Int) = some i := by
        rw [List.length_map, nl]
        unfold ixN
        simp
        omega
      rw [hix]
      dsimp only
      rw [if_pos wr0]
      show some [wcell rw a' W, D.lst ((W.names.map D.str).set i (.str ((S [113]) ++ w)))] = some [_, D.lst ((W.names.set i ((S [113]) ++ w)).map D.str)]
      rw [List.map_set]
      rfl
    refine ⟨W.names.set i ((S [113]) ++ w), some (.str ((S [113]) ++ w)), ?_, by simpa using nl, nodup_set nd hin, fun x hx => ?_⟩
    · unfold b__law_widen_l1
      simp only [ss_cons, ss_nil, s_set, s_sets, s_put, s_expr, s_ret, s_retN, s_if, s_for1, s_for2, s_for3, s_for4, s_for5, s_brk, s_cont, s_raise, fb_one, fb_many, fb_manyK, lb_one, lb_many, e_non, e_bool, e_int, e_str, e_var, e_gf, e_tyE, e_bin, e_neg, e_nt, e_and, e_or, e_cmp, e_chain, e_isN, e_notN, e_isB, e_notB, e_call, e_bi, e_listR1, e_listR2, e_idx, e_slc, e_tupE, e_lstE, e_box, e_bm, es_nil, es_cons, et_nil, et_cons, ea_one, ea_cons, eo_one, eo_cons, ei_rng1, ei_rng2, ei_seq, ei_rev, e_lc1, e_lc2, e_lc3, e_lc4, e_lc5, e_bits, e_sset, ei_rng3, recv_index, idx_str, bi_ord, bi_str, bin_mulS, cmp_ltS, cmp_leS, cmp_gtS, cmp_geS, eqD_str, setSlots_nil, setSlots_cons, asg_many, asg_manyK, slc_lst, slc_tup, wipeD, Out.bind_ok, Out.bind_exc, Out.noX_ok, Out.thenS_ok, Out.thenS_exc, OutS.seq_next, OutS.seq_ret, OutS.seq_exc, OutS.seq_brk, OutS.seq_cont, lift_some, List.set_cons_succ, List.set_cons_zero, List.getElem?_cons_succ, List.getElem?_cons_zero, bin_add, bin_sub, bin_mul, bin_mod, bin_fdiv, bin_pow, bin_addL, bin_addT, bin_mulL, bin_mulT, cmp_eq, cmp_ne, cmp_mem, cmp_nmem, cmp_lt, cmp_le, cmp_gt, cmp_ge, view_int, view_bl, view_lst, view_tup, view_fz, view_tk, view_str, view_dk, view_non, idx_lst, idx_tup, idx_fz, idx_tk, Ev.bi_len, bi_abs, bi_int, bi_intb, bi_tuple, bi_list, bi_all, bi_any, bi_min2, bi_max2, bi_min1, bi_max1, bi_sum, bi_sorted, bi_isinst, recv_append, recv_extend, optI_nil, optI_one, Option.map_some, Option.bind_some, Bool.not_true, Bool.not_false, isNon_non, eqD_int, eqD_bl, decide_true, decide_false, if_true, if_false, Bool.false_eq_true, reduceIte, true_or, or_true, or_self, false_or, or_false, true_and, and_true, false_and, and_false, and_self, nats_len, rng_len, isC, OutS.turn_next, OutS.turn_ret, OutS.turn_cont, OutS.turn_brk, OutS.turn_exc, kt_NoneType_int, kt_NoneType_str, kt_NoneType_list, kt_NoneType_tuple, kt_NoneType_dict, kt_NoneType_bool, kt_bool_int, kt_bool_str, kt_bool_list, kt_bool_tuple, kt_bool_dict, kt_bool_bool, kt_int_int, kt_int_str, kt_int_list, kt_int_tuple, kt_int_dict, kt_int_bool, kt_str_int, kt_str_str, kt_str_list, kt_str_tuple, kt_str_dict, kt_str_bool, kt_list_int, kt_list_str, kt_list_list, kt_list_tuple, kt_list_dict, kt_list_bool, kt_tuple_int, kt_tuple_str, kt_tuple_list, kt_tuple_tuple, kt_tuple_dict, kt_tuple_bool, kt_dict_int, kt_dict_str, kt_dict_list, kt_dict_tuple, kt_dict_dict, kt_dict_bool, ty_non, ty_bl, ty_int, ty_str, ty_tup, ty_tk, ty_lst, ty_fz, isNon_bl, isNon_int, isNon_str, isNon_tupl, isNon_lstl, at0, at1, at2, at3, Int.reduceEq, Int.reduceLT, Int.reduceLE, Int.reduceSub, Int.reduceAdd, Int.reduceMul, List.length_cons, List.length_nil, List.length_append, Nat.zero_add, h1, hadd, wn, hm, hp]
    · rcases List.mem_or_eq_of_mem_set hx with h | h
      · exact nm x h
      · rw [h]; exact hq
theorem drawn_lc {a n lo : Nat} {W : Wd} {ρ : Ev.Env} {x : Ex} {own : List Nat} (hr : rw.length = 400) (hlo : lo ≤ 37) (hx : x = .call i__law_drawn (.cons (.var 0) (.cons (.var 2) (.cons (.int (lo : Int)) (.cons (.int 37) .nil))))) (h0 : ∀ d, ((wipeD ρ own).set 3 (some d))[0]? = some (some (.ref 0))) (h2 : ∀ d, ((wipeD ρ own).set 3 (some d))[2]? = some (some (.str sgn58))) :
    ∃ (l : List Str), lcGo (lb G (run G (k + 2) 0) 0 ρ own (.one 3) .nil x) (rng 0 (n : Int)) [wcell rw a W, wnm W] = .ok (l.map D.str) [wcell rw (a + 3 * n) W, wnm W] ∧ l.length = n ∧ ∀ w ∈ l, okW w := by
  subst hx
  obtain ⟨ds, st', e1, l, q1, q2, q3, q4⟩ := lcGo_inv (f := lb G (run G (k + 2) 0) 0 ρ own (.one 3) .nil (.call i__law_drawn (.cons (.var 0) (.cons (.var 2) (.cons (.int (lo : Int)) (.cons (.int 37) .nil)))))) (xs := rng 0 (n : Int)) (fun i ds st => ∃ (l : List Str), ds = l.map D.str ∧ st = [wcell rw (a + 3 * i) W, wnm W] ∧ l.length = i ∧ ∀ w ∈ l, okW w) (st := [wcell rw a W, wnm W]) ⟨[], rfl, rfl, rfl, by simp⟩ (by
    intro i x hx ds st ⟨l, q1, q2, q3, q4⟩
    subst q1 q2
    obtain ⟨w, f1, f2, f3, f4⟩ := w_drawn (k := k) (fl := 0) (a := a + 3 * i) (W := W) (e := [wnm W]) (sg := sgn58) (lo := lo) (hi := 37) (L := 58) hr rfl (by decide) (by decide) hlo (by decide)
    rw [show ((37 : Nat) : Int) = 37 from rfl] at f1
    refine ⟨some (.str w), _, ?_, l ++ [w], by simp, by rw [show a + 3 * (i + 1) = a + 3 * i + 1 + 1 + 1 by omega], by simp [q3], fun z hz => ?_⟩
    · rw [lb_one, et_nil, Out.bind_ok, if_pos rfl, e_call]
      simp only [es_cons, es_nil, e_var, e_int, h0, h2, Out.bind_ok, f1]
    · rcases List.mem_append.mp hz with h | h
      · exact q4 z h
      · rw [List.mem_singleton.mp h]
        exact ⟨by omega, fun c hc => sgn58_ok c (f4 c hc)⟩)
  subst q1 q2
  rw [rng_len] at q3 e1
  rw [show ((n : Int) - 0).toNat = n by omega] at q3 e1
  exact ⟨l, e1, by omega, q4⟩
theorem run_nxk {G : Prog} {k fl f : Nat} {ds : List D} {st st' : Sto} {F : Fn} {ρ : Ev.Env} (hF : G.fns[f]? = some F) (hp : F.pop = false) (hn : ds.length = F.np)
    (h : evSs G (run G k fl) fl F.body (ds.map some ++ List.replicate (F.N.length - F.np) none) st = .next ρ st') : run G (k + 1) fl f ds st = .ok .non st' := by
  unfold Ev.run
  rw [hF]
  dsimp only
  rw [if_pos hn]
  simp only [hp, Bool.false_eq_true, if_false]
  rw [h]
  rfl
def b_widen_in : Sms := (.cons (.forS (.one 3) (.rng1 (.int 9)) b__law_widen_l1)
    (.cons (.put (.var 0) (.str (S [119, 111, 114, 100, 115])) (.bin .add (.lstE (.cons (.str (S [])) .nil)) (.lc b__law_widen_c1 (.one 3) (.rng1 (.int 4)) .nil [3])))
    (.cons (.set 5 (.lc b__law_widen_c2 (.one 3) (.rng1 (.int 5)) .nil [3]))
    (.cons (.put (.var 0) (.str (S [107, 101, 121, 115])) (.dicE (.cons (.str (S [119, 111, 114, 100])) (.var 5) (.cons (.str (S [110, 117, 109, 98, 101, 114])) (.lstE (.cons (.int 0) (.cons (.neg (.int 1)) (.cons (.bin .pow (.int 10) (.int 15)) (.cons (.neg (.bin .pow (.int 10) (.int 15))) (.cons (.bin .add (.bin .pow (.int 2) (.int 31)) (.call i__law_take (.cons (.var 0) .nil))) .nil)))))) .nil))))
    (.cons (.put (.var 0) (.str (S [115, 105, 122, 101, 115])) (.lstE (.cons (.int 0) (.cons (.int 1) (.cons (.int 127) (.cons (.int 128) (.cons (.bin .pow (.int 2) (.int 31)) (.cons (.bin .pow (.int 10) (.int 14)) .nil))))))))
    .nil)))))
theorem q231 : (0 : Int) ≤ 31 ∧ (31 : Int) ≤ 1000000 ∧ (2 : Int).natAbs < 2 ^ 64 := by decide
theorem z231 : (2 : Int) ^ (31 : Int).toNat = 2147483648 := by decide
theorem q1014 : (0 : Int) ≤ 14 ∧ (14 : Int) ≤ 1000000 ∧ (10 : Int).natAbs < 2 ^ 64 := by decide
theorem z1014 : (10 : Int) ^ (14 : Int).toNat = 100000000000000 := by decide
theorem q1015 : (0 : Int) ≤ 15 ∧ (15 : Int) ≤ 1000000 ∧ (10 : Int).natAbs < 2 ^ 64 := by decide
theorem z1015 : (10 : Int) ^ (15 : Int).toNat = 1000000000000000 := by decide
theorem fold2 {x y : D} : List.foldl (fun a p => dput a p.1 p.2) ([] : List (Key × D)) [(.inr (S [119, 111, 114, 100]), x), (.inr (S [110, 117, 109, 98, 101, 114]), y)] = [(.inr (S [119, 111, 114, 100]), x), (.inr (S [110, 117, 109, 98, 101, 114]), y)] := rfl
theorem tk_small {a : Nat} (hr : rw.length = 400) (hb : ∀ v ∈ rw, v < 997) : tk rw a < 997 + a := by
  unfold tk
  have h1 : a % rw.length < rw.length := Nat.mod_lt _ (by omega)
  have h2 : rw.getD (a % rw.length) 0 < 997 := by
    rw [List.getD_eq_getElem?_getD, List.getElem?_eq_getElem h1]
    exact hb _ (List.getElem_mem h1)
  have h3 : a / rw.length ≤ a := Nat.div_le_self _ _
  omega
theorem r_widen {a : Nat} (hr : rw.length = 400) (hb : ∀ v ∈ rw, v < 997) (ha : a ≤ 1000) : ∃ (W : Wd) (a' : Nat), run G (k + 3) 0 i__law_widen [.ref 0] [dcell rw a] = .ok .non [wcell rw a' W, wnm W] ∧ WdOk W ∧ a' ≤ a + 100 := by
  have hz : SZ = 16777216 := rfl
  obtain ⟨m, hm⟩ : ∃ m : Nat, tk rw a % 4 = m := ⟨_, rfl⟩
  have hm' : (tk rw a : Int) % 4 = (m : Int) := by omega
  obtain ⟨b, hbb⟩ : ∃ b : Bool, decide ((m : Int) = 0) = b := ⟨_, rfl⟩
  have hsig : ∀ st, binD st .add (.str (S [97, 98, 99, 100, 101, 102, 103, 104, 105, 106, 107, 108, 109, 110, 111, 112, 113, 114, 115, 116, 117, 118, 119, 120, 121, 122])) (.str (S [32, 126, 33, 64, 35, 36, 94, 38, 42, 40, 41, 43, 61, 91, 93, 123, 125, 124, 59, 58, 44, 46, 60, 62, 63, 47, 65, 90, 48, 57, 95, 45])) = some (.str sgn58) := fun st => by
    rw [bin_addS]; rfl
  obtain ⟨ρ0, hρ0⟩ : ∃ ρ0 : Ev.Env, [some (.ref 0), some (.str (S [97, 98, 99, 100, 101, 102, 103, 104, 105, 106, 107, 108, 109, 110, 111, 112, 113, 114, 115, 116, 117, 118, 119, 120, 121, 122])), some (.str sgn58), none, none, none] = ρ0 := ⟨_, rfl⟩
  have g0 : ρ0[0]? = some (some (.ref 0)) := by rw [← hρ0]; rfl
  have p1 : evS G (run G (k + 2) 0) 0 (.put (.var 0) (.str (S [119, 105, 100, 101])) (.cmp .eq (.bin .mod (.call i__law_take (.cons (.var 0) .nil)) (.int 4)) (.int 0))) ρ0 [dcell rw a] = .next ρ0 [.dk [(kRow, .lst (nats rw)), (kAt, .int ((a + 1 : Nat) : Int)), (kW1, .bl b)]] :=
    s_putk (kvs := [(kRow, .lst (nats rw)), (kAt, .int ((a + 1 : Nat) : Int))]) (e := []) (d := .bl b) (by rw [← hρ0]; simp only [ss_cons, ss_nil, s_set, s_sets, s_put, s_expr, s_ret, s_retN, s_if, s_for1, s_for2, s_for3, s_for4, s_for5, s_brk, s_cont, s_raise, fb_one, fb_many, fb_manyK, lb_one, lb_many, e_non, e_bool, e_int, e_str, e_var, e_gf, e_tyE, e_bin, e_neg, e_nt, e_and, e_or, e_cmp, e_chain, e_isN, e_notN, e_isB, e_notB, e_call, e_bi, e_listR1, e_listR2, e_idx, e_slc, e_tupE, e_lstE, e_box, e_bm, es_nil, es_cons, et_nil, et_cons, ea_one, ea_cons, eo_one, eo_cons, ei_rng1, ei_rng2, ei_seq, ei_rev, e_lc1, e_lc2, e_lc3, e_lc4, e_lc5, e_bits, e_sset, ei_rng3, recv_index, idx_str, bi_ord, bi_str, bin_mulS, bin_addS, cmp_ltS, cmp_leS, cmp_gtS, cmp_geS, eqD_str, setSlots_nil, setSlots_cons, asg_many, asg_manyK, slc_lst, slc_tup, wipeD, Out.bind_ok, Out.bind_exc, Out.noX_ok, Out.thenS_ok, Out.thenS_exc, OutS.seq_next, OutS.seq_ret, OutS.seq_exc, OutS.seq_brk, OutS.seq_cont, lift_some, List.set_cons_succ, List.set_cons_zero, List.getElem?_cons_succ, List.getElem?_cons_zero, bin_add, bin_sub, bin_mul, bin_mod, bin_fdiv, bin_pow, bin_addL, bin_addT, bin_mulL, bin_mulT, cmp_eq, cmp_ne, cmp_mem, cmp_nmem, cmp_lt, cmp_le, cmp_gt, cmp_ge, view_int, view_bl, view_lst, view_tup, view_fz, view_tk, view_str, view_dk, view_non, idx_lst, idx_tup, idx_fz, idx_tk, Ev.bi_len, bi_abs, bi_int, bi_intb, bi_tuple, bi_list, bi_all, bi_any, bi_min2, bi_max2, bi_min1, bi_max1, bi_sum, bi_sorted, bi_isinst, recv_append, recv_extend, optI_nil, optI_one, Option.map_some, Option.bind_some, Bool.not_true, Bool.not_false, isNon_non, eqD_int, eqD_bl, decide_true, decide_false, if_true, if_false, Bool.false_eq_true, reduceIte, true_or, or_true, or_self, false_or, or_false, true_and, and_true, false_and, and_false, and_self, nats_len, rng_len, isC, OutS.turn_next, OutS.turn_ret, OutS.turn_cont, OutS.turn_brk, OutS.turn_exc, kt_NoneType_int, kt_NoneType_str, kt_NoneType_list, kt_NoneType_tuple, kt_NoneType_dict, kt_NoneType_bool, kt_bool_int, kt_bool_str, kt_bool_list, kt_bool_tuple, kt_bool_dict, kt_bool_bool, kt_int_int, kt_int_str, kt_int_list, kt_int_tuple, kt_int_dict, kt_int_bool, kt_str_int, kt_str_str, kt_str_list, kt_str_tuple, kt_str_dict, kt_str_bool, kt_list_int, kt_list_str, kt_list_list, kt_list_tuple, kt_list_dict, kt_list_bool, kt_tuple_int, kt_tuple_str, kt_tuple_list, kt_tuple_tuple, kt_tuple_dict, kt_tuple_bool, kt_dict_int, kt_dict_str, kt_dict_list, kt_dict_tuple, kt_dict_dict, kt_dict_bool, ty_non, ty_bl, ty_int, ty_str, ty_tup, ty_tk, ty_lst, ty_fz, isNon_bl, isNon_int, isNon_str, isNon_tupl, isNon_lstl, at0, at1, at2, at3, Int.reduceEq, Int.reduceLT, Int.reduceLE, Int.reduceSub, Int.reduceAdd, Int.reduceMul, List.length_cons, List.length_nil, List.length_append, Nat.zero_add, w_take0 (k := k + 1) (e := []) hr, show (0 : Int) < 4 by decide, hm', hbb]; rfl) g0 (by simp only [List.length_cons, List.length_nil]; decide) rfl
  have p2 : evS G (run G (k + 2) 0) 0 (.put (.var 0) (.str (S [110, 97, 109, 101, 115])) (.box (.lstE (.cons (.str (S [97])) (.cons (.str (S [116, 97, 98])) (.cons (.str (S [122])) (.cons (.str (S [119])) (.cons (.str (S [110])) (.cons (.str (S [115])) (.cons (.str (S [109])) (.cons (.str (S [108])) (.cons (.str (S [104])) .nil)))))))))))) ρ0 [.dk [(kRow, .lst (nats rw)), (kAt, .int ((a + 1 : Nat) : Int)), (kW1, .bl b)]] = .next ρ0 [.dk [(kRow, .lst (nats rw)), (kAt, .int ((a + 1 : Nat) : Int)), (kW1, .bl b), (kW2, .ref 1)], .lst (names0.map D.str)] :=
    s_putk (kvs := [(kRow, .lst (nats rw)), (kAt, .int ((a + 1 : Nat) : Int)), (kW1, .bl b)]) (e := [.lst (names0.map D.str)]) (d := .ref 1) (by simp only [ss_cons, ss_nil, s_set, s_sets, s_put, s_expr, s_ret, s_retN, s_if, s_for1, s_for2, s_for3, s_for4, s_for5, s_brk, s_cont, s_raise, fb_one, fb_many, fb_manyK, lb_one, lb_many, e_non, e_bool, e_int, e_str, e_var, e_gf, e_tyE, e_bin, e_neg, e_nt, e_and, e_or, e_cmp, e_chain, e_isN, e_notN, e_isB, e_notB, e_call, e_bi, e_listR1, e_listR2, e_idx, e_slc, e_tupE, e_lstE, e_box, e_bm, es_nil, es_cons, et_nil, et_cons, ea_one, ea_cons, eo_one, eo_cons, ei_rng1, ei_rng2, ei_seq, ei_rev, e_lc1, e_lc2, e_lc3, e_lc4, e_lc5, e_bits, e_sset, ei_rng3, recv_index, idx_str, bi_ord, bi_str, bin_mulS, bin_addS, cmp_ltS, cmp_leS, cmp_gtS, cmp_geS, eqD_str, setSlots_nil, setSlots_cons, asg_many, asg_manyK, slc_lst, slc_tup, wipeD, Out.bind_ok, Out.bind_exc, Out.noX_ok, Out.thenS_ok, Out.thenS_exc, OutS.seq_next, OutS.seq_ret, OutS.seq_exc, OutS.seq_brk, OutS.seq_cont, lift_some, List.set_cons_succ, List.set_cons_zero, List.getElem?_cons_succ, List.getElem?_cons_zero, bin_add, bin_sub, bin_mul, bin_mod, bin_fdiv, bin_pow, bin_addL, bin_addT, bin_mulL, bin_mulT, cmp_eq, cmp_ne, cmp_mem, cmp_nmem, cmp_lt, cmp_le, cmp_gt, cmp_ge, view_int, view_bl, view_lst, view_tup, view_fz, view_tk, view_str, view_dk, view_non, idx_lst, idx_tup, idx_fz, idx_tk, Ev.bi_len, bi_abs, bi_int, bi_intb, bi_tuple, bi_list, bi_all, bi_any, bi_min2, bi_max2, bi_min1, bi_max1, bi_sum, bi_sorted, bi_isinst, recv_append, recv_extend, optI_nil, optI_one, Option.map_some, Option.bind_some, Bool.not_true, Bool.not_false, isNon_non, eqD_int, eqD_bl, decide_true, decide_false, if_true, if_false, Bool.false_eq_true, reduceIte, true_or, or_true, or_self, false_or, or_false, true_and, and_true, false_and, and_false, and_self, nats_len, rng_len, isC, OutS.turn_next, OutS.turn_ret, OutS.turn_cont, OutS.turn_brk, OutS.turn_exc, kt_NoneType_int, kt_NoneType_str, kt_NoneType_list, kt_NoneType_tuple, kt_NoneType_dict, kt_NoneType_bool, kt_bool_int, kt_bool_str, kt_bool_list, kt_bool_tuple, kt_bool_dict, kt_bool_bool, kt_int_int, kt_int_str, kt_int_list, kt_int_tuple, kt_int_dict, kt_int_bool, kt_str_int, kt_str_str, kt_str_list, kt_str_tuple, kt_str_dict, kt_str_bool, kt_list_int, kt_list_str, kt_list_list, kt_list_tuple, kt_list_dict, kt_list_bool, kt_tuple_int, kt_tuple_str, kt_tuple_list, kt_tuple_tuple, kt_tuple_dict, kt_tuple_bool, kt_dict_int, kt_dict_str, kt_dict_list, kt_dict_tuple, kt_dict_dict, kt_dict_bool, ty_non, ty_bl, ty_int, ty_str, ty_tup, ty_tk, ty_lst, ty_fz, isNon_bl, isNon_int, isNon_str, isNon_tupl, isNon_lstl, at0, at1, at2, at3, Int.reduceEq, Int.reduceLT, Int.reduceLE, Int.reduceSub, Int.reduceAdd, Int.reduceMul, List.length_cons, List.length_nil, List.length_append, Nat.zero_add, List.cons_append, List.nil_append]; rfl) g0 (by simp only [List.length_cons, List.length_nil]; decide) rfl
  have p3 : evS G (run G (k + 2) 0) 0 (.put (.var 0) (.str (S [119, 111, 114, 100, 115])) (.lstE (.cons (.str (S [])) (.cons (.str (S [120])) (.cons (.str (S [121, 121])) (.cons (.str (S [97, 32, 119, 111, 114, 100])) (.cons (.str (S [122, 57])) .nil))))))) ρ0 [.dk [(kRow, .lst (nats rw)), (kAt, .int ((a + 1 : Nat) : Int)), (kW1, .bl b), (kW2, .ref 1)], .lst (names0.map D.str)] = .next ρ0 [.dk [(kRow, .lst (nats rw)), (kAt, .int ((a + 1 : Nat) : Int)), (kW1, .bl b), (kW2, .ref 1), (kW3, .lst ((W0 b).words.map D.str))], .lst (names0.map D.str)] :=
    s_putk (kvs := [(kRow, .lst (nats rw)), (kAt, .int ((a + 1 : Nat) : Int)), (kW1, .bl b), (kW2, .ref 1)]) (d := .lst ((W0 b).words.map D.str)) (by simp only [ss_cons, ss_nil, s_set, s_sets, s_put, s_expr, s_ret, s_retN, s_if, s_for1, s_for2, s_for3, s_for4, s_for5, s_brk, s_cont, s_raise, fb_one, fb_many, fb_manyK, lb_one, lb_many, e_non, e_bool, e_int, e_str, e_var, e_gf, e_tyE, e_bin, e_neg, e_nt, e_and, e_or, e_cmp, e_chain, e_isN, e_notN, e_isB, e_notB, e_call, e_bi, e_listR1, e_listR2, e_idx, e_slc, e_tupE, e_lstE, e_box, e_bm, es_nil, es_cons, et_nil, et_cons, ea_one, ea_cons, eo_one, eo_cons, ei_rng1, ei_rng2, ei_seq, ei_rev, e_lc1, e_lc2, e_lc3, e_lc4, e_lc5, e_bits, e_sset, ei_rng3, recv_index, idx_str, bi_ord, bi_str, bin_mulS, bin_addS, cmp_ltS, cmp_leS, cmp_gtS, cmp_geS, eqD_str, setSlots_nil, setSlots_cons, asg_many, asg_manyK, slc_lst, slc_tup, wipeD, Out.bind_ok, Out.bind_exc, Out.noX_ok, Out.thenS_ok, Out.thenS_exc, OutS.seq_next, OutS.seq_ret, OutS.seq_exc, OutS.seq_brk, OutS.seq_cont, lift_some, List.set_cons_succ, List.set_cons_zero, List.getElem?_cons_succ, List.getElem?_cons_zero, bin_add, bin_sub, bin_mul, bin_mod, bin_fdiv, bin_pow, bin_addL, bin_addT, bin_mulL, bin_mulT, cmp_eq, cmp_ne, cmp_mem, cmp_nmem, cmp_lt, cmp_le, cmp_gt, cmp_ge, view_int, view_bl, view_lst, view_tup, view_fz, view_tk, view_str, view_dk, view_non, idx_lst, idx_tup, idx_fz, idx_tk, Ev.bi_len, bi_abs, bi_int, bi_intb, bi_tuple, bi_list, bi_all, bi_any, bi_min2, bi_max2, bi_min1, bi_max1, bi_sum, bi_sorted, bi_isinst, recv_append, recv_extend, optI_nil, optI_one, Option.map_some, Option.bind_some, Bool.not_true, Bool.not_false, isNon_non, eqD_int, eqD_bl, decide_true, decide_false, if_true, if_false, Bool.false_eq_true, reduceIte, true_or, or_true, or_self, false_or, or_false, true_and, and_true, false_and, and_false, and_self, nats_len, rng_len, isC, OutS.turn_next, OutS.turn_ret, OutS.turn_cont, OutS.turn_brk, OutS.turn_exc, kt_NoneType_int, kt_NoneType_str, kt_NoneType_list, kt_NoneType_tuple, kt_NoneType_dict, kt_NoneType_bool, kt_bool_int, kt_bool_str, kt_bool_list, kt_bool_tuple, kt_bool_dict, kt_bool_bool, kt_int_int, kt_int_str, kt_int_list, kt_int_tuple, kt_int_dict, kt_int_bool, kt_str_int, kt_str_str, kt_str_list, kt_str_tuple, kt_str_dict, kt_str_bool, kt_list_int, kt_list_str, kt_list_list, kt_list_tuple, kt_list_dict, kt_list_bool, kt_tuple_int, kt_tuple_str, kt_tuple_list, kt_tuple_tuple, kt_tuple_dict, kt_tuple_bool, kt_dict_int, kt_dict_str, kt_dict_list, kt_dict_tuple, kt_dict_dict, kt_dict_bool, ty_non, ty_bl, ty_int, ty_str, ty_tup, ty_tk, ty_lst, ty_fz, isNon_bl, isNon_int, isNon_str, isNon_tupl, isNon_lstl, at0, at1, at2, at3, Int.reduceEq, Int.reduceLT, Int.reduceLE, Int.reduceSub, Int.reduceAdd, Int.reduceMul, List.length_cons, List.length_nil, List.length_append, Nat.zero_add]; rfl) g0 (by simp only [List.length_cons, List.length_nil]; decide) rfl
  have p4 : evS G (run G (k + 2) 0) 0 (.put (.var 0) (.str (S [107, 101, 121, 115])) (.dicE (.cons (.str (S [119, 111, 114, 100])) (.lstE (.cons (.str (S [])) (.cons (.str (S [97])) (.cons (.str (S [98])) (.cons (.str (S [107, 101, 121])) (.cons (.str (S [126, 32, 122])) .nil)))))) (.cons (.str (S [110, 117, 109, 98, 101, 114])) (.lstE (.cons (.int 0) (.cons (.int 1) (.cons (.int 2) (.cons (.int 3) (.cons (.neg (.int 7)) .nil)))))) .nil)))) ρ0 [.dk [(kRow, .lst (nats rw)), (kAt, .int ((a + 1 : Nat) : Int)), (kW1, .bl b), (kW2, .ref 1), (kW3, .lst ((W0 b).words.map D.str))], .lst (names0.map D.str)] =
      .next ρ0 [.dk [(kRow, .lst (nats rw)), (kAt, .int ((a + 1 : Nat) : Int)), (kW1, .bl b), (kW2, .ref 1), (kW3, .lst ((W0 b).words.map D.str)), (kW4, .dk [(.inr (S [119, 111, 114, 100]), .lst ((W0 b).kw.map D.str)), (.inr (S [110, 117, 109, 98, 101, 114]), .lst (zs (W0 b).kn))])], .lst (names0.map D.str)] :=
    s_putk (kvs := [(kRow, .lst (nats rw)), (kAt, .int ((a + 1 : Nat) : Int)), (kW1, .bl b), (kW2, .ref 1), (kW3, .lst ((W0 b).words.map D.str))]) (d := .dk [(.inr (S [119, 111, 114, 100]), .lst ((W0 b).kw.map D.str)), (.inr (S [110, 117, 109, 98, 101, 114]), .lst (zs (W0 b).kn))]) (by simp only [ss_cons, ss_nil, s_set, s_sets, s_put, s_expr, s_ret, s_retN, s_if, s_for1, s_for2, s_for3, s_for4, s_for5, s_brk, s_cont, s_raise, fb_one, fb_many, fb_manyK, lb_one, lb_many, e_non, e_bool, e_int, e_str, e_var, e_gf, e_tyE, e_bin, e_neg, e_nt, e_and, e_or, e_cmp, e_chain, e_isN, e_notN, e_isB, e_notB, e_call, e_bi, e_listR1, e_listR2, e_idx, e_slc, e_tupE, e_lstE, e_box, e_bm, es_nil, es_cons, et_nil, et_cons, ea_one, ea_cons, eo_one, eo_cons, ei_rng1, ei_rng2, ei_seq, ei_rev, e_lc1, e_lc2, e_lc3, e_lc4, e_lc5, e_bits, e_sset, ei_rng3, recv_index, idx_str, bi_ord, bi_str, bin_mulS, bin_addS, cmp_ltS, cmp_leS, cmp_gtS, cmp_geS, eqD_str, setSlots_nil, setSlots_cons, asg_many, asg_manyK, slc_lst, slc_tup, wipeD, Out.bind_ok, Out.bind_exc, Out.noX_ok, Out.thenS_ok, Out.thenS_exc, OutS.seq_next, OutS.seq_ret, OutS.seq_exc, OutS.seq_brk, OutS.seq_cont, lift_some, List.set_cons_succ, List.set_cons_zero, List.getElem?_cons_succ, List.getElem?_cons_zero, bin_add, bin_sub, bin_mul, bin_mod, bin_fdiv, bin_pow, bin_addL, bin_addT, bin_mulL, bin_mulT, cmp_eq, cmp_ne, cmp_mem, cmp_nmem, cmp_lt, cmp_le, cmp_gt, cmp_ge, view_int, view_bl, view_lst, view_tup, view_fz, view_tk, view_str, view_dk, view_non, idx_lst, idx_tup, idx_fz, idx_tk, Ev.bi_len, bi_abs, bi_int, bi_intb, bi_tuple, bi_list, bi_all, bi_any, bi_min2, bi_max2, bi_min1, bi_max1, bi_sum, bi_sorted, bi_isinst, recv_append, recv_extend, optI_nil, optI_one, Option.map_some, Option.bind_some, Bool.not_true, Bool.not_false, isNon_non, eqD_int, eqD_bl, decide_true, decide_false, if_true, if_false, Bool.false_eq_true, reduceIte, true_or, or_true, or_self, false_or, or_false, true_and, and_true, false_and, and_false, and_self, nats_len, rng_len, isC, OutS.turn_next, OutS.turn_ret, OutS.turn_cont, OutS.turn_brk, OutS.turn_exc, kt_NoneType_int, kt_NoneType_str, kt_NoneType_list, kt_NoneType_tuple, kt_NoneType_dict, kt_NoneType_bool, kt_bool_int, kt_bool_str, kt_bool_list, kt_bool_tuple, kt_bool_dict, kt_bool_bool, kt_int_int, kt_int_str, kt_int_list, kt_int_tuple, kt_int_dict, kt_int_bool, kt_str_int, kt_str_str, kt_str_list, kt_str_tuple, kt_str_dict, kt_str_bool, kt_list_int, kt_list_str, kt_list_list, kt_list_tuple, kt_list_dict, kt_list_bool, kt_tuple_int, kt_tuple_str, kt_tuple_list, kt_tuple_tuple, kt_tuple_dict, kt_tuple_bool, kt_dict_int, kt_dict_str, kt_dict_list, kt_dict_tuple, kt_dict_dict, kt_dict_bool, ty_non, ty_bl, ty_int, ty_str, ty_tup, ty_tk, ty_lst, ty_fz, isNon_bl, isNon_int, isNon_str, isNon_tupl, isNon_lstl, at0, at1, at2, at3, Int.reduceEq, Int.reduceLT, Int.reduceLE, Int.reduceSub, Int.reduceAdd, Int.reduceMul, List.length_cons, List.length_nil, List.length_append, Nat.zero_add, e_dicE, eps_cons, eps_nil, keyD_str, fold2]; rfl) g0 (by simp only [List.length_cons, List.length_nil]; decide) rfl
  have p5 : evS G (run G (k + 2) 0) 0 (.put (.var 0) (.str (S [115, 105, 122, 101, 115])) (.lstE (.cons (.int 0) (.cons (.int 1) (.cons (.int 2) (.cons (.int 5) (.cons (.int 9) (.cons (.int 40) .nil)))))))) ρ0 [.dk [(kRow, .lst (nats rw)), (kAt, .int ((a + 1 : Nat) : Int)), (kW1, .bl b), (kW2, .ref 1), (kW3, .lst ((W0 b).words.map D.str)), (kW4, .dk [(.inr (S [119, 111, 114, 100]), .lst ((W0 b).kw.map D.str)), (.inr (S [110, 117, 109, 98, 101, 114]), .lst (zs (W0 b).kn))])], .lst (names0.map D.str)] = .next ρ0 [wcell rw (a + 1) (W0 b), wnm (W0 b)] :=
    s_putk (kvs := [(kRow, .lst (nats rw)), (kAt, .int ((a + 1 : Nat) : Int)), (kW1, .bl b), (kW2, .ref 1), (kW3, .lst ((W0 b).words.map D.str)), (kW4, .dk [(.inr (S [119, 111, 114, 100]), .lst ((W0 b).kw.map D.str)), (.inr (S [110, 117, 109, 98, 101, 114]), .lst (zs (W0 b).kn))])]) (d := .lst (zs (W0 b).sizes)) (by simp only [ss_cons, ss_nil, s_set, s_sets, s_put, s_expr, s_ret, s_retN, s_if, s_for1, s_for2, s_for3, s_for4, s_for5, s_brk, s_cont, s_raise, fb_one, fb_many, fb_manyK, lb_one, lb_many, e_non, e_bool, e_int, e_str, e_var, e_gf, e_tyE, e_bin, e_neg, e_nt, e_and, e_or, e_cmp, e_chain, e_isN, e_notN, e_isB, e_notB, e_call, e_bi, e_listR1, e_listR2, e_idx, e_slc, e_tupE, e_lstE, e_box, e_bm, es_nil, es_cons, et_nil, et_cons, ea_one, ea_cons, eo_one, eo_cons, ei_rng1, ei_rng2, ei_seq, ei_rev, e_lc1, e_lc2, e_lc3, e_lc4, e_lc5, e_bits, e_sset, ei_rng3, recv_index, idx_str, bi_ord, bi_str, bin_mulS, bin_addS, cmp_ltS, cmp_leS, cmp_gtS, cmp_geS, eqD_str, setSlots_nil, setSlots_cons, asg_many, asg_manyK, slc_lst, slc_tup, wipeD, Out.bind_ok, Out.bind_exc, Out.noX_ok, Out.thenS_ok, Out.thenS_exc, OutS.seq_next, OutS.seq_ret, OutS.seq_exc, OutS.seq_brk, OutS.seq_cont, lift_some, List.set_cons_succ, List.set_cons_zero, List.getElem?_cons_succ, List.getElem?_cons_zero, bin_add, bin_sub, bin_mul, bin_mod, bin_fdiv, bin_pow, bin_addL, bin_addT, bin_mulL, bin_mulT, cmp_eq, cmp_ne, cmp_mem, cmp_nmem, cmp_lt, cmp_le, cmp_gt, cmp_ge, view_int, view_bl, view_lst, view_tup, view_fz, view_tk, view_str, view_dk, view_non, idx_lst, idx_tup, idx_fz, idx_tk, Ev.bi_len, bi_abs, bi_int, bi_intb, bi_tuple, bi_list, bi_all, bi_any, bi_min2, bi_max2, bi_min1, bi_max1, bi_sum, bi_sorted, bi_isinst, recv_append, recv_extend, optI_nil, optI_one, Option.map_some, Option.bind_some, Bool.not_true, Bool.not_false, isNon_non, eqD_int, eqD_bl, decide_true, decide_false, if_true, if_false, Bool.false_eq_true, reduceIte, true_or, or_true, or_self, false_or, or_false, true_and, and_true, false_and, and_false, and_self, nats_len, rng_len, isC, OutS.turn_next, OutS.turn_ret, OutS.turn_cont, OutS.turn_brk, OutS.turn_exc, kt_NoneType_int, kt_NoneType_str, kt_NoneType_list, kt_NoneType_tuple, kt_NoneType_dict, kt_NoneType_bool, kt_bool_int, kt_bool_str, kt_bool_list, kt_bool_tuple, kt_bool_dict, kt_bool_bool, kt_int_int, kt_int_str, kt_int_list, kt_int_tuple, kt_int_dict, kt_int_bool, kt_str_int, kt_str_str, kt_str_list, kt_str_tuple, kt_str_dict, kt_str_bool, kt_list_int, kt_list_str, kt_list_list, kt_list_tuple, kt_list_dict, kt_list_bool, kt_tuple_int, kt_tuple_str, kt_tuple_list, kt_tuple_tuple, kt_tuple_dict, kt_tuple_bool, kt_dict_int, kt_dict_str, kt_dict_list, kt_dict_tuple, kt_dict_dict, kt_dict_bool, ty_non, ty_bl, ty_int, ty_str, ty_tup, ty_tk, ty_lst, ty_fz, isNon_bl, isNon_int, isNon_str, isNon_tupl, isNon_lstl, at0, at1, at2, at3, Int.reduceEq, Int.reduceLT, Int.reduceLE, Int.reduceSub, Int.reduceAdd, Int.reduceMul, List.length_cons, List.length_nil, List.length_append, Nat.zero_add]; rfl) g0 (by simp only [List.length_cons, List.length_nil]; decide) rfl
  have wid := w_wide (rw := rw) (a := a + 1) (W := W0 b) (e := [wnm (W0 b)])
  have wb : (W0 b).wide = b := rfl
  have W0k := W0_ok b
  have pre : ∀ R : Sms, evSs G (run G (k + 2) 0) 0 (.cons (.ifS (.idx (.var 0) (.str (S [119, 105, 100, 101]))) R .nil) .nil) ρ0 [wcell rw (a + 1) (W0 b), wnm (W0 b)] = if b = true then evSs G (run G (k + 2) 0) 0 R ρ0 [wcell rw (a + 1) (W0 b), wnm (W0 b)] else .next ρ0 [wcell rw (a + 1) (W0 b), wnm (W0 b)] := fun R => by
    rw [ss_cons, s_if, e_idx, e_var, g0]
    rw [Out.bind_ok, e_str, Out.bind_ok, wid, wb, lift_some, Out.thenS_ok]
    cases b with
    | true =>
      rw [if_pos rfl]
      dsimp only
      cases evSs G (run G (k + 2) 0) 0 R ρ0 [wcell rw (a + 1) (W0 true), wnm (W0 true)] <;> rfl
    | false =>
      rw [if_neg Bool.false_ne_true]
      dsimp only
      rw [ss_nil, OutS.seq_next, ss_nil]
  have body : evSs G (run G (k + 2) 0) 0 b__law_widen [some (.ref 0), none, none, none, none, none] [dcell rw a] = if b = true then evSs G (run G (k + 2) 0) 0 b_widen_in ρ0 [wcell rw (a + 1) (W0 b), wnm (W0 b)] else .next ρ0 [wcell rw (a + 1) (W0 b), wnm (W0 b)] := by
    rw [← pre b_widen_in]
    unfold b__law_widen
    rw [ss_cons, s_set, e_str, Out.thenS_ok, OutS.seq_next, ss_cons, s_set, e_bin, e_var]
    simp only [List.set_cons_succ, List.set_cons_zero, List.getElem?_cons_succ, List.getElem?_cons_zero, Out.bind_ok, e_str]
    rw [hsig, lift_some, Out.thenS_ok, OutS.seq_next]
    show evSs G _ 0 _ [some (.ref 0), some (.str (S [97, 98, 99, 100, 101, 102, 103, 104, 105, 106, 107, 108, 109, 110, 111, 112, 113, 114, 115, 116, 117, 118, 119, 120, 121, 122])), some (.str sgn58), none, none, none] _ = _
    rw [hρ0, ss_cons, p1, OutS.seq_next, ss_cons, p2, OutS.seq_next, ss_cons, p3, OutS.seq_next, ss_cons, p4, OutS.seq_next, ss_cons, p5, OutS.seq_next]
    rfl
  clear p1 p2 p3 p4 p5 pre
  cases b with
  | false =>
    refine ⟨W0 false, a + 1, ?_, W0k, by omega⟩
    rw [if_neg Bool.false_ne_true] at body
    exact run_nxk rfl rfl rfl body
  | true =>
    rw [if_pos rfl] at body
    have s9 : small62 9 = true := by decide +kernel
    have s4 : small62 4 = true := by decide +kernel
    have s5 : small62 5 = true := by decide +kernel
    have key := forGo_inv (b := fb G (run G (k + 2) 0) 0 (.one 3) b__law_widen_l1) (xs := rng 0 9) (fun i ρ st => ∃ ns y3 y4, ρ = [some (.ref 0), some (.str ltrs), some (.str sgn58), y3, y4, none] ∧ st = [wcell rw (a + 1 + 3 * i) { W0 true with names := ns }, wnm { W0 true with names := ns }] ∧ ns.length = 9 ∧ ns.Nodup ∧ ∀ x ∈ ns, okNm x)
      (ρ := ρ0) (st := [wcell rw (a + 1) (W0 true), wnm (W0 true)]) ⟨names0, none, none, hρ0.symm, rfl, W0k.nl, W0k.nd, W0k.nm⟩ (by
        intro i x hx ρ st ⟨ns, y3, y4, q1, q2, q3, q4, q5⟩
        obtain ⟨hi, rfl⟩ := rng_get hx
        subst q1 q2
        rw [Int.zero_add]
        obtain ⟨ns2, z4, f1, f2, f3, f4⟩ := widen_l1 (k := k) (a := a + 1 + 3 * i) (i := i) (W := { W0 true with names := ns }) (x2 := some (.str sgn58)) (x4 := y4) (x5 := none) hr hi q3 q4 q5
        refine ⟨_, _, .inl ?_, ns2, some (.int (i : Int)), z4, rfl, by rw [show a + 1 + 3 * (i + 1) = a + 1 + 3 * i + 1 + 1 + 1 by omega], f2, f3, f4⟩
        rw [fb_one]
        simp only [List.set_cons_succ, List.set_cons_zero]
        exact f1)
    obtain ⟨ρ1, st1, ef, ns, y3, y4, q1, q2, q3, q4, q5⟩ := key
    subst q1 q2
    rw [show (rng 0 9).length = 9 by rw [rng_len]; rfl] at ef
    obtain ⟨l1, g1, l1l, l1o⟩ := drawn_lc (k := k) (a := a + 1 + 3 * 9) (n := 4) (lo := 1) (W := { W0 true with names := ns }) (ρ := [some (.ref 0), some (.str ltrs), some (.str sgn58), y3, y4, none]) (x := b__law_widen_c1) (own := [3]) hr (by decide) rfl (fun d => rfl) (fun d => rfl)
    obtain ⟨W1, hW1⟩ : ∃ W1, ({ W0 true with names := ns, words := (S []) :: l1 } : Wd) = W1 := ⟨_, rfl⟩
    have e1 : wnm { W0 true with names := ns } = wnm W1 := by rw [← hW1]; rfl
    obtain ⟨l2, g2, l2l, l2o⟩ := drawn_lc (k := k) (a := a + 1 + 3 * 9 + 3 * 4) (n := 5) (lo := 0) (W := W1) (ρ := [some (.ref 0), some (.str ltrs), some (.str sgn58), y3, y4, none]) (x := b__law_widen_c2) (own := [3]) hr (by decide) rfl (fun d => rfl) (fun d => rfl)
    obtain ⟨v, hv⟩ : ∃ v : Int, 2147483648 + (tk rw (a + 1 + 3 * 9 + 3 * 4 + 3 * 5) : Int) = v := ⟨_, rfl⟩
    have htk := tk_small (a := a + 1 + 3 * 9 + 3 * 4 + 3 * 5) hr hb
    obtain ⟨W2, hW2⟩ : ∃ W2, (⟨true, ns, (S []) :: l1, l2, [0, -1, 1000000000000000, -1000000000000000, v], [0, 1, 127, 128, 2147483648, 100000000000000]⟩ : Wd) = W2 := ⟨_, rfl⟩
    have W2k : WdOk W2 := by
      rw [← hW2]
      exact ⟨q3, q4, q5, by show ((S []) :: l1).length = 5; simp [l1l], fun x hx => by
        rcases List.mem_cons.mp hx with h | h
        · rw [h]; exact okW_of (by decide +kernel)
        · exact l1o x h, l2l, l2o, rfl, fun x hx => by
        simp only [List.mem_cons, List.not_mem_nil, or_false] at hx
        rcases hx with h | h | h | h | h <;> rw [h] <;> omega, rfl, by show ∀ x ∈ ([0, 1, 127, 128, 2147483648, 100000000000000] : List Int), _; decide⟩
    refine ⟨W2, a + 1 + 3 * 9 + 3 * 4 + 3 * 5 + 1, ?_, W2k, by omega⟩
    have r1 : ∀ st : Sto, evS G (run G (k + 2) 0) 0 (.put (.var 0) (.str (S [119, 111, 114, 100, 115])) (.bin .add (.lstE (.cons (.str (S [])) .nil)) (.lc b__law_widen_c1 (.one 3) (.rng1 (.int 4)) .nil [3]))) [some (.ref 0), some (.str ltrs), some (.str sgn58), y3, y4, none] [wcell rw (a + 1 + 3 * 9) { W0 true with names := ns }, wnm { W0 true with names := ns }] = .next [some (.ref 0), some (.str ltrs), some (.str sgn58), y3, y4, none] [wcell rw (a + 1 + 3 * 9 + 3 * 4) W1, wnm W1] := fun st => by
      rw [← e1]
      refine s_putk (kvs := wkvs rw (a + 1 + 3 * 9 + 3 * 4) { W0 true with names := ns }) (e := [wnm { W0 true with names := ns }]) (d := .lst (((S []) :: l1).map D.str)) ?_ rfl (by show 7 < SZ; decide) (by rw [← hW1]; rfl)
      rw [show ((4 : Nat) : Int) = 4 from rfl] at g1
      simp only [ss_cons, ss_nil, s_set, s_sets, s_put, s_expr, s_ret, s_retN, s_if, s_for1, s_for2, s_for3, s_for4, s_for5, s_brk, s_cont, s_raise, fb_one, fb_many, fb_manyK, lb_one, lb_many, e_non, e_bool, e_int, e_str, e_var, e_gf, e_tyE, e_bin, e_neg, e_nt, e_and, e_or, e_cmp, e_chain, e_isN, e_notN, e_isB, e_notB, e_call, e_bi, e_listR1, e_listR2, e_idx, e_slc, e_tupE, e_lstE, e_box, e_bm, es_nil, es_cons, et_nil, et_cons, ea_one, ea_cons, eo_one, eo_cons, ei_rng1, ei_rng2, ei_seq, ei_rev, e_lc1, e_lc2, e_lc3, e_lc4, e_lc5, e_bits, e_sset, ei_rng3, recv_index, idx_str, bi_ord, bi_str, bin_mulS, bin_addS, cmp_ltS, cmp_leS, cmp_gtS, cmp_geS, eqD_str, setSlots_nil, setSlots_cons, asg_many, asg_manyK, slc_lst, slc_tup, wipeD, Out.bind_ok, Out.bind_exc, Out.noX_ok, Out.thenS_ok, Out.thenS_exc, OutS.seq_next, OutS.seq_ret, OutS.seq_exc, OutS.seq_brk, OutS.seq_cont, lift_some, List.set_cons_succ, List.set_cons_zero, List.getElem?_cons_succ, List.getElem?_cons_zero, bin_add, bin_sub, bin_mul, bin_mod, bin_fdiv, bin_pow, bin_addL, bin_addT, bin_mulL, bin_mulT, cmp_eq, cmp_ne, cmp_mem, cmp_nmem, cmp_lt, cmp_le, cmp_gt, cmp_ge, view_int, view_bl, view_lst, view_tup, view_fz, view_tk, view_str, view_dk, view_non, idx_lst, idx_tup, idx_fz, idx_tk, Ev.bi_len, bi_abs, bi_int, bi_intb, bi_tuple, bi_list, bi_all, bi_any, bi_min2, bi_max2, bi_min1, bi_max1, bi_sum, bi_sorted, bi_isinst, recv_append, recv_extend, optI_nil, optI_one, Option.map_some, Option.bind_some, Bool.not_true, Bool.not_false, isNon_non, eqD_int, eqD_bl, decide_true, decide_false, if_true, if_false, Bool.false_eq_true, reduceIte, true_or, or_true, or_self, false_or, or_false, true_and, and_true, false_and, and_false, and_self, nats_len, rng_len, isC, OutS.turn_next, OutS.turn_ret, OutS.turn_cont, OutS.turn_brk, OutS.turn_exc, kt_NoneType_int, kt_NoneType_str, kt_NoneType_list, kt_NoneType_tuple, kt_NoneType_dict, kt_NoneType_bool, kt_bool_int, kt_bool_str, kt_bool_list, kt_bool_tuple, kt_bool_dict, kt_bool_bool, kt_int_int, kt_int_str, kt_int_list, kt_int_tuple, kt_int_dict, kt_int_bool, kt_str_int, kt_str_str, kt_str_list, kt_str_tuple, kt_str_dict, kt_str_bool, kt_list_int, kt_list_str, kt_list_list, kt_list_tuple, kt_list_dict, kt_list_bool, kt_tuple_int, kt_tuple_str, kt_tuple_list, kt_tuple_tuple, kt_tuple_dict, kt_tuple_bool, kt_dict_int, kt_dict_str, kt_dict_list, kt_dict_tuple, kt_dict_dict, kt_dict_bool, ty_non, ty_bl, ty_int, ty_str, ty_tup, ty_tk, ty_lst, ty_fz, isNon_bl, isNon_int, isNon_str, isNon_tupl, isNon_lstl, at0, at1, at2, at3, Int.reduceEq, Int.reduceLT, Int.reduceLE, Int.reduceSub, Int.reduceAdd, Int.reduceMul, List.length_cons, List.length_nil, List.length_append, Nat.zero_add, s4, show (4 : Int).toNat ≤ SZ by decide, g1, List.length_map, l1l, show 1 + 4 ≤ SZ by decide]
      rfl
    have r2 : evS G (run G (k + 2) 0) 0 (.set 5 (.lc b__law_widen_c2 (.one 3) (.rng1 (.int 5)) .nil [3])) [some (.ref 0), some (.str ltrs), some (.str sgn58), y3, y4, none] [wcell rw (a + 1 + 3 * 9 + 3 * 4) W1, wnm W1] = .next [some (.ref 0), some (.str ltrs), some (.str sgn58), y3, y4, some (.lst (l2.map D.str))] [wcell rw (a + 1 + 3 * 9 + 3 * 4 + 3 * 5) W1, wnm W1] := by
      rw [show ((5 : Nat) : Int) = 5 from rfl] at g2
      simp only [ss_cons, ss_nil, s_set, s_sets, s_put, s_expr, s_ret, s_retN, s_if, s_for1, s_for2, s_for3, s_for4, s_for5, s_brk, s_cont, s_raise, fb_one, fb_many, fb_manyK, lb_one, lb_many, e_non, e_bool, e_int, e_str, e_var, e_gf, e_tyE, e_bin, e_neg, e_nt, e_and, e_or, e_cmp, e_chain, e_isN, e_notN, e_isB, e_notB, e_call, e_bi, e_listR1, e_listR2, e_idx, e_slc, e_tupE, e_lstE, e_box, e_bm, es_nil, es_cons, et_nil, et_cons, ea_one, ea_cons, eo_one, eo_cons, ei_rng1, ei_rng2, ei_seq, ei_rev, e_lc1, e_lc2, e_lc3, e_lc4, e_lc5, e_bits, e_sset, ei_rng3, recv_index, idx_str, bi_ord, bi_str, bin_mulS, bin_addS, cmp_ltS, cmp_leS, cmp_gtS, cmp_geS, eqD_str, setSlots_nil, setSlots_cons, asg_many, asg_manyK, slc_lst, slc_tup, wipeD, Out.bind_ok, Out.bind_exc, Out.noX_ok, Out.thenS_ok, Out.thenS_exc, OutS.seq_next, OutS.seq_ret, OutS.seq_exc, OutS.seq_brk, OutS.seq_cont, lift_some, List.set_cons_succ, List.set_cons_zero, List.getElem?_cons_succ, List.getElem?_cons_zero, bin_add, bin_sub, bin_mul, bin_mod, bin_fdiv, bin_pow, bin_addL, bin_addT, bin_mulL, bin_mulT, cmp_eq, cmp_ne, cmp_mem, cmp_nmem, cmp_lt, cmp_le, cmp_gt, cmp_ge, view_int, view_bl, view_lst, view_tup, view_fz, view_tk, view_str, view_dk, view_non, idx_lst, idx_tup, idx_fz, idx_tk, Ev.bi_len, bi_abs, bi_int, bi_intb, bi_tuple, bi_list, bi_all, bi_any, bi_min2, bi_max2, bi_min1, bi_max1, bi_sum, bi_sorted, bi_isinst, recv_append, recv_extend, optI_nil, optI_one, Option.map_some, Option.bind_some, Bool.not_true, Bool.not_false, isNon_non, eqD_int, eqD_bl, decide_true, decide_false, if_true, if_false, Bool.false_eq_true, reduceIte, true_or, or_true, or_self, false_or, or_false, true_and, and_true, false_and, and_false, and_self, nats_len, rng_len, isC, OutS.turn_next, OutS.turn_ret, OutS.turn_cont, OutS.turn_brk, OutS.turn_exc, kt_NoneType_int, kt_NoneType_str, kt_NoneType_list, kt_NoneType_tuple, kt_NoneType_dict, kt_NoneType_bool, kt_bool_int, kt_bool_str, kt_bool_list, kt_bool_tuple, kt_bool_dict, kt_bool_bool, kt_int_int, kt_int_str, kt_int_list, kt_int_tuple, kt_int_dict, kt_int_bool, kt_str_int, kt_str_str, kt_str_list, kt_str_tuple, kt_str_dict, kt_str_bool, kt_list_int, kt_list_str, kt_list_list, kt_list_tuple, kt_list_dict, kt_list_bool, kt_tuple_int, kt_tuple_str, kt_tuple_list, kt_tuple_tuple, kt_tuple_dict, kt_tuple_bool, kt_dict_int, kt_dict_str, kt_dict_list, kt_dict_tuple, kt_dict_dict, kt_dict_bool, ty_non, ty_bl, ty_int, ty_str, ty_tup, ty_tk, ty_lst, ty_fz, isNon_bl, isNon_int, isNon_str, isNon_tupl, isNon_lstl, at0, at1, at2, at3, Int.reduceEq, Int.reduceLT, Int.reduceLE, Int.reduceSub, Int.reduceAdd, Int.reduceMul, List.length_cons, List.length_nil, List.length_append, Nat.zero_add, s5, show (5 : Int).toNat ≤ SZ by decide, g2]
    obtain ⟨W3, hW3⟩ : ∃ W3, ({ W1 with kw := l2, kn := [0, -1, 1000000000000000, -1000000000000000, v] } : Wd) = W3 := ⟨_, rfl⟩
    have e3 : wnm W1 = wnm W3 := by rw [← hW3]; rfl
    have r3 : evS G (run G (k + 2) 0) 0 (.put (.var 0) (.str (S [107, 101, 121, 115])) (.dicE (.cons (.str (S [119, 111, 114, 100])) (.var 5) (.cons (.str (S [110, 117, 109, 98, 101, 114])) (.lstE (.cons (.int 0) (.cons (.neg (.int 1)) (.cons (.bin .pow (.int 10) (.int 15)) (.cons (.neg (.bin .pow (.int 10) (.int 15))) (.cons (.bin .add (.bin .pow (.int 2) (.int 31)) (.call i__law_take (.cons (.var 0) .nil))) .nil)))))) .nil)))) [some (.ref 0), some (.str ltrs), some (.str sgn58), y3, y4, some (.lst (l2.map D.str))] [wcell rw (a + 1 + 3 * 9 + 3 * 4 + 3 * 5) W1, wnm W1] = .next [some (.ref 0), some (.str ltrs), some (.str sgn58), y3, y4, some (.lst (l2.map D.str))] [wcell rw (a + 1 + 3 * 9 + 3 * 4 + 3 * 5 + 1) W3, wnm W3] := by
      rw [← e3]
      refine s_putk (kvs := wkvs rw (a + 1 + 3 * 9 + 3 * 4 + 3 * 5 + 1) W1) (e := [wnm W1]) (d := .dk [(.inr (S [119, 111, 114, 100]), .lst (l2.map D.str)), (.inr (S [110, 117, 109, 98, 101, 114]), .lst (zs [0, -1, 1000000000000000, -1000000000000000, v]))]) ?_ rfl (by show 7 < SZ; decide) (by rw [← hW3]; rfl)
      simp only [ss_cons, ss_nil, s_set, s_sets, s_put, s_expr, s_ret, s_retN, s_if, s_for1, s_for2, s_for3, s_for4, s_for5, s_brk, s_cont, s_raise, fb_one, fb_many, fb_manyK, lb_one, lb_many, e_non, e_bool, e_int, e_str, e_var, e_gf, e_tyE, e_bin, e_neg, e_nt, e_and, e_or, e_cmp, e_chain, e_isN, e_notN, e_isB, e_notB, e_call, e_bi, e_listR1, e_listR2, e_idx, e_slc, e_tupE, e_lstE, e_box, e_bm, es_nil, es_cons, et_nil, et_cons, ea_one, ea_cons, eo_one, eo_cons, ei_rng1, ei_rng2, ei_seq, ei_rev, e_lc1, e_lc2, e_lc3, e_lc4, e_lc5, e_bits, e_sset, ei_rng3, recv_index, idx_str, bi_ord, bi_str, bin_mulS, bin_addS, cmp_ltS, cmp_leS, cmp_gtS, cmp_geS, eqD_str, setSlots_nil, setSlots_cons, asg_many, asg_manyK, slc_lst, slc_tup, wipeD, Out.bind_ok, Out.bind_exc, Out.noX_ok, Out.thenS_ok, Out.thenS_exc, OutS.seq_next, OutS.seq_ret, OutS.seq_exc, OutS.seq_brk, OutS.seq_cont, lift_some, List.set_cons_succ, List.set_cons_zero, List.getElem?_cons_succ, List.getElem?_cons_zero, bin_add, bin_sub, bin_mul, bin_mod, bin_fdiv, bin_pow, bin_addL, bin_addT, bin_mulL, bin_mulT, cmp_eq, cmp_ne, cmp_mem, cmp_nmem, cmp_lt, cmp_le, cmp_gt, cmp_ge, view_int, view_bl, view_lst, view_tup, view_fz, view_tk, view_str, view_dk, view_non, idx_lst, idx_tup, idx_fz, idx_tk, Ev.bi_len, bi_abs, bi_int, bi_intb, bi_tuple, bi_list, bi_all, bi_any, bi_min2, bi_max2, bi_min1, bi_max1, bi_sum, bi_sorted, bi_isinst, recv_append, recv_extend, optI_nil, optI_one, Option.map_some, Option.bind_some, Bool.not_true, Bool.not_false, isNon_non, eqD_int, eqD_bl, decide_true, decide_false, if_true, if_false, Bool.false_eq_true, reduceIte, true_or, or_true, or_self, false_or, or_false, true_and, and_true, false_and, and_false, and_self, nats_len, rng_len, isC, OutS.turn_next, OutS.turn_ret, OutS.turn_cont, OutS.turn_brk, OutS.turn_exc, kt_NoneType_int, kt_NoneType_str, kt_NoneType_list, kt_NoneType_tuple, kt_NoneType_dict, kt_NoneType_bool, kt_bool_int, kt_bool_str, kt_bool_list, kt_bool_tuple, kt_bool_dict, kt_bool_bool, kt_int_int, kt_int_str, kt_int_list, kt_int_tuple, kt_int_dict, kt_int_bool, kt_str_int, kt_str_str, kt_str_list, kt_str_tuple, kt_str_dict, kt_str_bool, kt_list_int, kt_list_str, kt_list_list, kt_list_tuple, kt_list_dict, kt_list_bool, kt_tuple_int, kt_tuple_str, kt_tuple_list, kt_tuple_tuple, kt_tuple_dict, kt_tuple_bool, kt_dict_int, kt_dict_str, kt_dict_list, kt_dict_tuple, kt_dict_dict, kt_dict_bool, ty_non, ty_bl, ty_int, ty_str, ty_tup, ty_tk, ty_lst, ty_fz, isNon_bl, isNon_int, isNon_str, isNon_tupl, isNon_lstl, at0, at1, at2, at3, Int.reduceEq, Int.reduceLT, Int.reduceLE, Int.reduceSub, Int.reduceAdd, Int.reduceMul, List.length_cons, List.length_nil, List.length_append, Nat.zero_add, e_dicE, eps_cons, eps_nil, keyD_str, q1015, z1015, q231, z231, w_take (k := k + 1) hr, hv, fold2]
      rfl
    have e2 : wnm W3 = wnm W2 := by rw [← hW3, ← hW1, ← hW2]; rfl
    have r4 : evS G (run G (k + 2) 0) 0 (.put (.var 0) (.str (S [115, 105, 122, 101, 115])) (.lstE (.cons (.int 0) (.cons (.int 1) (.cons (.int 127) (.cons (.int 128) (.cons (.bin .pow (.int 2) (.int 31)) (.cons (.bin .pow (.int 10) (.int 14)) .nil)))))))) [some (.ref 0), some (.str ltrs), some (.str sgn58), y3, y4, some (.lst (l2.map D.str))] [wcell rw (a + 1 + 3 * 9 + 3 * 4 + 3 * 5 + 1) W3, wnm W3] = .next [some (.ref 0), some (.str ltrs), some (.str sgn58), y3, y4, some (.lst (l2.map D.str))] [wcell rw (a + 1 + 3 * 9 + 3 * 4 + 3 * 5 + 1) W2, wnm W2] := by
      rw [← e2]
      refine s_putk (kvs := wkvs rw (a + 1 + 3 * 9 + 3 * 4 + 3 * 5 + 1) W3) (e := [wnm W3]) (d := .lst (zs [0, 1, 127, 128, 2147483648, 100000000000000])) ?_ rfl (by show 7 < SZ; decide) (by rw [← hW3, ← hW1, ← hW2]; rfl)
      simp only [ss_cons, ss_nil, s_set, s_sets, s_put, s_expr, s_ret, s_retN, s_if, s_for1, s_for2, s_for3, s_for4, s_for5, s_brk, s_cont, s_raise, fb_one, fb_many, fb_manyK, lb_one, lb_many, e_non, e_bool, e_int, e_str, e_var, e_gf, e_tyE, e_bin, e_neg, e_nt, e_and, e_or, e_cmp, e_chain, e_isN, e_notN, e_isB, e_notB, e_call, e_bi, e_listR1, e_listR2, e_idx, e_slc, e_tupE, e_lstE, e_box, e_bm, es_nil, es_cons, et_nil, et_cons, ea_one, ea_cons, eo_one, eo_cons, ei_rng1, ei_rng2, ei_seq, ei_rev, e_lc1, e_lc2, e_lc3, e_lc4, e_lc5, e_bits, e_sset, ei_rng3, recv_index, idx_str, bi_ord, bi_str, bin_mulS, bin_addS, cmp_ltS, cmp_leS, cmp_gtS, cmp_geS, eqD_str, setSlots_nil, setSlots_cons, asg_many, asg_manyK, slc_lst, slc_tup, wipeD, Out.bind_ok, Out.bind_exc, Out.noX_ok, Out.thenS_ok, Out.thenS_exc, OutS.seq_next, OutS.seq_ret, OutS.seq_exc, OutS.seq_brk, OutS.seq_cont, lift_some, List.set_cons_succ, List.set_cons_zero, List.getElem?_cons_succ, List.getElem?_cons_zero, bin_add, bin_sub, bin_mul, bin_mod, bin_fdiv, bin_pow, bin_addL, bin_addT, bin_mulL, bin_mulT, cmp_eq, cmp_ne, cmp_mem, cmp_nmem, cmp_lt, cmp_le, cmp_gt, cmp_ge, view_int, view_bl, view_lst, view_tup, view_fz, view_tk, view_str, view_dk, view_non, idx_lst, idx_tup, idx_fz, idx_tk, Ev.bi_len, bi_abs, bi_int, bi_intb, bi_tuple, bi_list, bi_all, bi_any, bi_min2, bi_max2, bi_min1, bi_max1, bi_sum, bi_sorted, bi_isinst, recv_append, recv_extend, optI_nil, optI_one, Option.map_some, Option.bind_some, Bool.not_true, Bool.not_false, isNon_non, eqD_int, eqD_bl, decide_true, decide_false, if_true, if_false, Bool.false_eq_true, reduceIte, true_or, or_true, or_self, false_or, or_false, true_and, and_true, false_and, and_false, and_self, nats_len, rng_len, isC, OutS.turn_next, OutS.turn_ret, OutS.turn_cont, OutS.turn_brk, OutS.turn_exc, kt_NoneType_int, kt_NoneType_str, kt_NoneType_list, kt_NoneType_tuple, kt_NoneType_dict, kt_NoneType_bool, kt_bool_int, kt_bool_str, kt_bool_list, kt_bool_tuple, kt_bool_dict, kt_bool_bool, kt_int_int, kt_int_str, kt_int_list, kt_int_tuple, kt_int_dict, kt_int_bool, kt_str_int, kt_str_str, kt_str_list, kt_str_tuple, kt_str_dict, kt_str_bool, kt_list_int, kt_list_str, kt_list_list, kt_list_tuple, kt_list_dict, kt_list_bool, kt_tuple_int, kt_tuple_str, kt_tuple_list, kt_tuple_tuple, kt_tuple_dict, kt_tuple_bool, kt_dict_int, kt_dict_str, kt_dict_list, kt_dict_tuple, kt_dict_dict, kt_dict_bool, ty_non, ty_bl, ty_int, ty_str, ty_tup, ty_tk, ty_lst, ty_fz, isNon_bl, isNon_int, isNon_str, isNon_tupl, isNon_lstl, at0, at1, at2, at3, Int.reduceEq, Int.reduceLT, Int.reduceLE, Int.reduceSub, Int.reduceAdd, Int.reduceMul, List.length_cons, List.length_nil, List.length_append, Nat.zero_add, q231, z231, q1014, z1014]
      rfl
    have fin : evSs G (run G (k + 2) 0) 0 b_widen_in ρ0 [wcell rw (a + 1) (W0 true), wnm (W0 true)] = .next [some (.ref 0), some (.str ltrs), some (.str sgn58), y3, y4, some (.lst (l2.map D.str))] [wcell rw (a + 1 + 3 * 9 + 3 * 4 + 3 * 5 + 1) W2, wnm W2] := by
      unfold b_widen_in
      rw [ss_cons, s_for1, ei_rng1, e_int, Out.bind_ok]
      dsimp only
      rw [if_pos s9, Out.thenS_ok, ef, OutS.seq_next, ss_cons, r1 [], OutS.seq_next, ss_cons, r2, OutS.seq_next, ss_cons, r3, OutS.seq_next, ss_cons, r4, OutS.seq_next, ss_nil]
    rw [fin] at body
    exact run_nxk rfl rfl rfl body
end
/-! ### things -/
mutual
def thg (L : Nat) : Nat → D → Bool
  | _, .non => true
  | _, .bl _ => true
  | _, .int _ => true
  | _, .str x => decide (x.length ≤ 1000)
  | n + 1, .tup xs => decide (xs.length ≤ L) && thgs L n xs
  | _, _ => false
def thgs (L : Nat) : Nat → List D → Bool
  | _, [] => true
  | n, x :: xs => thg L n x && thgs L n xs
end
theorem thg_tup {L n : Nat} {xs : List D} : thg L n (.tup xs) = true ↔ ∃ m, n = m + 1 ∧ xs.length ≤ L ∧ thgs L m xs = true := by
  cases n with
  | zero => simp [thg]
  | succ n => simp [thg]
theorem thgs_cons {L n : Nat} {x : D} {xs : List D} : thgs L n (x :: xs) = true ↔ thg L n x = true ∧ thgs L n xs = true := by
  rw [thgs, Bool.and_eq_true]
theorem thgs_nil {L n : Nat} : thgs L n [] = true := by rw [thgs]
theorem thgs_app {L n : Nat} : ∀ {xs ys : List D}, thgs L n (xs ++ ys) = true ↔ thgs L n xs = true ∧ thgs L n ys = true
  | [], ys => by simp [thgs]
  | x :: xs, ys => by rw [List.cons_append, thgs_cons, thgs_cons, thgs_app (xs := xs), and_assoc]
theorem thgs_mem {L n : Nat} : ∀ {xs : List D}, thgs L n xs = true ↔ ∀ x ∈ xs, thg L n x = true
  | [] => by simp [thgs]
  | x :: xs => by rw [thgs_cons, thgs_mem (xs := xs)]; simp
mutual
theorem thg_ok {L : Nat} : ∀ (d : D) (n : Nat), thg L n d = true → okN n d = true
  | .non, _, _ => by simp [okN]
  | .bl _, _, _ => by simp [okN]
  | .int _, _, _ => by simp [okN]
  | .str _, _, _ => by simp [okN]
  | .tup xs, 0, h => by simp [thg] at h
  | .tup xs, n + 1, h => by
    rw [thg, Bool.and_eq_true] at h
    rw [okN]; exact thgs_ok xs n h.2
  | .lst _, n, h => by cases n <;> simp [thg] at h
  | .fz _, n, h => by cases n <;> simp [thg] at h
  | .tk _, n, h => by cases n <;> simp [thg] at h
  | .dk _, n, h => by cases n <;> simp [thg] at h
  | .dt _, n, h => by cases n <;> simp [thg] at h
  | .ins _ _, n, h => by cases n <;> simp [thg] at h
  | .ref _, n, h => by cases n <;> simp [thg] at h
  | .fn _, n, h => by cases n <;> simp [thg] at h
  | .cl _, n, h => by cases n <;> simp [thg] at h
  | .ty _, n, h => by cases n <;> simp [thg] at h
  | .err _ _, n, h => by cases n <;> simp [thg] at h
theorem thgs_ok {L : Nat} : ∀ (xs : List D) (n : Nat), thgs L n xs = true → okNs n xs = true
  | [], _, _ => by simp [okNs]
  | x :: xs, n, h => by
    rw [thgs, Bool.and_eq_true] at h
    rw [okNs, thg_ok x n h.1, thgs_ok xs n h.2]; rfl
end
mutual
theorem thg_mono {L M : Nat} (hL : L ≤ M) : ∀ (d : D) (n k : Nat), n ≤ k → thg L n d = true → thg M k d = true
  | .non, _, _, _, _ => by simp [thg]
  | .bl _, _, _, _, _ => by simp [thg]
  | .int _, _, _, _, _ => by simp [thg]
  | .str _, n, k, _, h => by cases n <;> cases k <;> simpa [thg] using h
  | .tup xs, 0, k, _, h => by simp [thg] at h
  | .tup xs, n + 1, 0, hk, h => by omega
  | .tup xs, n + 1, k + 1, hk, h => by
    rw [thg, Bool.and_eq_true, decide_eq_true_eq] at h
    rw [thg, thgs_mono hL xs n k (by omega) h.2, decide_eq_true (by omega)]; rfl
  | .lst _, n, _, _, h => by cases n <;> simp [thg] at h
  | .fz _, n, _, _, h => by cases n <;> simp [thg] at h
  | .tk _, n, _, _, h => by cases n <;> simp [thg] at h
  | .dk _, n, _, _, h => by cases n <;> simp [thg] at h
  | .dt _, n, _, _, h => by cases n <;> simp [thg] at h
  | .ins _ _, n, _, _, h => by cases n <;> simp [thg] at h
  | .ref _, n, _, _, h => by cases n <;> simp [thg] at h
  | .fn _, n, _, _, h => by cases n <;> simp [thg] at h
  | .cl _, n, _, _, h => by cases n <;> simp [thg] at h
  | .ty _, n, _, _, h => by cases n <;> simp [thg] at h
  | .err _ _, n, _, _, h => by cases n <;> simp [thg] at h
theorem thgs_mono {L M : Nat} (hL : L ≤ M) : ∀ (xs : List D) (n k : Nat), n ≤ k → thgs L n xs = true → thgs M k xs = true
  | [], _, _, _, _ => by simp [thgs]
  | x :: xs, n, k, hk, h => by
    rw [thgs, Bool.and_eq_true] at h
    rw [thgs, thg_mono hL x n k hk h.1, thgs_mono hL xs n k hk h.2]; rfl
end
theorem thg_ok60 {L n : Nat} {d : D} (h : thg L n d = true) (hn : n ≤ 58) : okN 60 d = true := okN_mono d n 60 (by omega) (thg_ok d n h)
theorem thgs_ok59 {L n : Nat} {xs : List D} (h : thgs L n xs = true) (hn : n ≤ 58) : okNs 59 xs = true := okNs_mono xs n 59 (by omega) (thgs_ok xs n h)
mutual
theorem thg_lo {L f : Nat} : ∀ (d : D) (n : Nat), thg L n d = true → d.lo f = true
  | .non, _, _ => rfl
  | .bl _, _, _ => rfl
  | .int _, _, _ => rfl
  | .str _, _, _ => rfl
  | .tup xs, 0, h => by simp [thg] at h
  | .tup xs, n + 1, h => by
    rw [thg, Bool.and_eq_true] at h
    exact thgs_lo xs n h.2
  | .lst _, n, h => by cases n <;> simp [thg] at h
  | .fz _, n, h => by cases n <;> simp [thg] at h
  | .tk _, n, h => by cases n <;> simp [thg] at h
  | .dk _, n, h => by cases n <;> simp [thg] at h
  | .dt _, n, h => by cases n <;> simp [thg] at h
  | .ins _ _, n, h => by cases n <;> simp [thg] at h
  | .ref _, n, h => by cases n <;> simp [thg] at h
  | .fn _, n, h => by cases n <;> simp [thg] at h
  | .cl _, n, h => by cases n <;> simp [thg] at h
  | .ty _, n, h => by cases n <;> simp [thg] at h
  | .err _ _, n, h => by cases n <;> simp [thg] at h
theorem thgs_lo {L f : Nat} : ∀ (xs : List D) (n : Nat), thgs L n xs = true → D.los f xs = true
  | [], _, _ => rfl
  | x :: xs, n, h => by
    rw [thgs, Bool.and_eq_true] at h
    show (D.lo f x && D.los f xs) = true
    rw [thg_lo x n h.1, thgs_lo xs n h.2]; rfl
end
theorem unbox_thg {L n fl : Nat} {st : Sto} {d : D} (h : thg L n d = true) : unbox fl st d = some d := by
  have h0 := thg_lo (f := 0) d n h
  cases d <;> first
    | (unfold unbox; dsimp only; exact if_pos h0)
    | (cases n <;> simp [thg] at h)
/-! ### words, taken from words.src -/
theorem unbox_i {fl : Nat} {st : Sto} {i : Int} : unbox fl st (.int i) = some (.int i) := rfl
structure Tb where
  name : Str
  kind : Str
  cols : List (Str × Str)
def colD (c : Str × Str) : D := .tup [.str c.1, .str c.2]
def colsD (cs : List (Str × Str)) : D := .tup (cs.map colD)
def tbD (t : Tb) : D := .tup [.str t.name, .str t.kind, colsD t.cols]
def schD (T : List Tb) : D := .tup (T.map tbD)
theorem thg_colD {c : Str × Str} (h1 : c.1.length ≤ 1000) (h2 : c.2.length ≤ 1000) : thg 100 1 (colD c) = true := by
  simp [colD, thg, thgs, h1, h2]
structure TbOk (t : Tb) : Prop where
  name : t.name.length ≤ 1000
  kind : t.kind.length ≤ 1000
  cols : ∀ c ∈ t.cols, c.1.length ≤ 1000 ∧ c.2.length ≤ 1000
  few : t.cols.length ≤ 100
  rules : ∀ c ∈ t.cols, c.2 ∈ [(S [119, 111, 114, 100]), (S [110, 117, 109, 98, 101, 114]), (S [115, 117, 109]), (S [109, 111, 115, 116]), (S [108, 111, 116]), (S [115, 104, 97, 114, 101])]
theorem TbOk.thgC {t : Tb} (h : TbOk t) : thgs 100 1 (t.cols.map colD) = true := thgs_mem.mpr fun x hx => by
  obtain ⟨c, hc, rfl⟩ := List.mem_map.mp hx
  exact thg_colD (h.cols c hc).1 (h.cols c hc).2
theorem TbOk.thg {t : Tb} (h : TbOk t) : thg 100 3 (tbD t) = true := by
  have h1 := h.thgC
  have h2 : Law.thg 100 2 (colsD t.cols) = true := by
    unfold colsD
    rw [Law.thg, h1, List.length_map, decide_eq_true h.few]; rfl
  unfold tbD
  rw [Law.thg, thgs, thgs, thgs, thgs, h2]
  simp [Law.thg, h.name, h.kind]
/-! ### the start, words, schemas from a widened cell -/
theorem fold3 {x y : D} : List.foldl (fun a p => dput a p.1 p.2) ([] : List (Key × D)) [(kRow, x), (kAt, y)] = [(kRow, x), (kAt, y)] := rfl
theorem r_startW {k : Nat} {ns : List Int} (h1 : ns.length ≤ 63) : ∃ (row : List Nat) (a : Nat) (W : Wd), row.length = 400 ∧ (∀ v ∈ row, v < 997) ∧ run G (k + 4) 0 i__law_start [.fz (ns.map D.int)] [] = .ok (.ref 0) [wcell row a W, wnm W] ∧ WdOk W ∧ a ≤ 100 := by
  obtain ⟨row, hr, hb, hd⟩ := run_drawsB (G := G) (k := k + 2) (fl := 0) (f := i__law_draws) (F := f__law_draws) (ns := ns) (many := 400) (st := []) rfl rfl rfl rfl rfl h1 (by decide)
  obtain ⟨W, a, hw, hk, ha⟩ := r_widen (k := k) (rw := row) (a := 0) hr hb (by decide)
  refine ⟨row, a, W, hr, hb, run_keep (F := f__law_start) rfl rfl rfl ?_, hk, by omega⟩
  show evSs G (run G (k + 3) 0) 0 b__law_start [some (.fz (ns.map D.int)), none] [] = _
  have h400 : ((400 : Nat) : Int) = 400 := rfl
  rw [h400] at hd
  have hdc : [D.dk [(kRow, .lst (nats row)), (kAt, .int 0)]] = [dcell row 0] := rfl
  have hk2 : ([(Sum.inr (S [114, 111, 119]), D.lst (nats row)), (Sum.inr (S [97, 116]), D.int 0)] : List (Key × D)) = [(kRow, D.lst (nats row)), (kAt, .int 0)] := rfl
  unfold b__law_start
  simp only [ss_cons, ss_nil, s_set, s_sets, s_put, s_expr, s_ret, s_retN, s_if, s_for1, s_for2, s_for3, s_for4, s_for5, s_brk, s_cont, s_raise, fb_one, fb_many, fb_manyK, lb_one, lb_many, e_non, e_bool, e_int, e_str, e_var, e_gf, e_tyE, e_bin, e_neg, e_nt, e_and, e_or, e_cmp, e_chain, e_isN, e_notN, e_isB, e_notB, e_call, e_bi, e_listR1, e_listR2, e_idx, e_slc, e_tupE, e_lstE, e_box, e_bm, es_nil, es_cons, et_nil, et_cons, ea_one, ea_cons, eo_one, eo_cons, ei_rng1, ei_rng2, ei_seq, ei_rev, e_lc1, e_lc2, e_lc3, e_lc4, e_lc5, e_bits, e_sset, ei_rng3, recv_index, idx_str, bi_ord, bi_str, bin_mulS, bin_addS, cmp_ltS, cmp_leS, cmp_gtS, cmp_geS, eqD_str, setSlots_nil, setSlots_cons, asg_many, asg_manyK, slc_lst, slc_tup, wipeD, Out.bind_ok, Out.bind_exc, Out.noX_ok, Out.thenS_ok, Out.thenS_exc, OutS.seq_next, OutS.seq_ret, OutS.seq_exc, OutS.seq_brk, OutS.seq_cont, lift_some, List.set_cons_succ, List.set_cons_zero, List.getElem?_cons_succ, List.getElem?_cons_zero, bin_add, bin_sub, bin_mul, bin_mod, bin_fdiv, bin_pow, bin_addL, bin_addT, bin_mulL, bin_mulT, cmp_eq, cmp_ne, cmp_mem, cmp_nmem, cmp_lt, cmp_le, cmp_gt, cmp_ge, view_int, view_bl, view_lst, view_tup, view_fz, view_tk, view_str, view_dk, view_non, idx_lst, idx_tup, idx_fz, idx_tk, Ev.bi_len, bi_abs, bi_int, bi_intb, bi_tuple, bi_list, bi_all, bi_any, bi_min2, bi_max2, bi_min1, bi_max1, bi_sum, bi_sorted, bi_isinst, recv_append, recv_extend, optI_nil, optI_one, Option.map_some, Option.bind_some, Bool.not_true, Bool.not_false, isNon_non, eqD_int, eqD_bl, decide_true, decide_false, if_true, if_false, Bool.false_eq_true, reduceIte, true_or, or_true, or_self, false_or, or_false, true_and, and_true, false_and, and_false, and_self, nats_len, rng_len, isC, OutS.turn_next, OutS.turn_ret, OutS.turn_cont, OutS.turn_brk, OutS.turn_exc, kt_NoneType_int, kt_NoneType_str, kt_NoneType_list, kt_NoneType_tuple, kt_NoneType_dict, kt_NoneType_bool, kt_bool_int, kt_bool_str, kt_bool_list, kt_bool_tuple, kt_bool_dict, kt_bool_bool, kt_int_int, kt_int_str, kt_int_list, kt_int_tuple, kt_int_dict, kt_int_bool, kt_str_int, kt_str_str, kt_str_list, kt_str_tuple, kt_str_dict, kt_str_bool, kt_list_int, kt_list_str, kt_list_list, kt_list_tuple, kt_list_dict, kt_list_bool, kt_tuple_int, kt_tuple_str, kt_tuple_list, kt_tuple_tuple, kt_tuple_dict, kt_tuple_bool, kt_dict_int, kt_dict_str, kt_dict_list, kt_dict_tuple, kt_dict_dict, kt_dict_bool, ty_non, ty_bl, ty_int, ty_str, ty_tup, ty_tk, ty_lst, ty_fz, isNon_bl, isNon_int, isNon_str, isNon_tupl, isNon_lstl, at0, at1, at2, at3, Int.reduceEq, Int.reduceLT, Int.reduceLE, Int.reduceSub, Int.reduceAdd, Int.reduceMul, List.length_cons, List.length_nil, List.length_append, Nat.zero_add, e_dicE, eps_cons, eps_nil, keyD_str, hd, hk2, fold3, List.nil_append, hdc, hw]
section
variable {k fl : Nat} {rw : List Nat} {a : Nat} {W : Wd} {e : Sto}
theorem w_word (hr : rw.length = 400) (hW : WdOk W) : ∃ s, run G (k + 2) fl i__law_word [.ref 0] (wcell rw a W :: e) = .ok (.str s) (wcell rw (a + 1) W :: e) ∧ s ∈ W.words := by
  obtain ⟨s, h1, h2⟩ := pickS (ss := W.words) (t := tk rw a) (n := 5) hW.wl (by decide)
  rw [show ((5 : Nat) : Int) = 5 from rfl] at h1
  refine ⟨s, ?_, h2⟩
  have ww := w_words (rw := rw) (a := a) (W := W) (e := e)
  have q := run_popS (G := G) (k := k + 1) (fl := fl) (F := f__law_word) (f := i__law_word) (ds := [.ref 0]) (st := wcell rw a W :: e) (st' := wcell rw (a + 1) W :: e) (d := .str s) (d' := .str s) rfl rfl rfl (by
    show evSs G (run G (k + 1) (e.length + 1)) (e.length + 1) b__law_word [some (.ref 0)] (wcell rw a W :: e) = _
    unfold b__law_word
    simp only [ss_cons, ss_nil, s_set, s_sets, s_put, s_expr, s_ret, s_retN, s_if, s_for1, s_for2, s_for3, s_for4, s_for5, s_brk, s_cont, s_raise, fb_one, fb_many, fb_manyK, lb_one, lb_many, e_non, e_bool, e_int, e_str, e_var, e_gf, e_tyE, e_bin, e_neg, e_nt, e_and, e_or, e_cmp, e_chain, e_isN, e_notN, e_isB, e_notB, e_call, e_bi, e_listR1, e_listR2, e_idx, e_slc, e_tupE, e_lstE, e_box, e_bm, es_nil, es_cons, et_nil, et_cons, ea_one, ea_cons, eo_one, eo_cons, ei_rng1, ei_rng2, ei_seq, ei_rev, e_lc1, e_lc2, e_lc3, e_lc4, e_lc5, e_bits, e_sset, ei_rng3, recv_index, idx_str, bi_ord, bi_str, bin_mulS, bin_addS, cmp_ltS, cmp_leS, cmp_gtS, cmp_geS, eqD_str, setSlots_nil, setSlots_cons, asg_many, asg_manyK, slc_lst, slc_tup, wipeD, Out.bind_ok, Out.bind_exc, Out.noX_ok, Out.thenS_ok, Out.thenS_exc, OutS.seq_next, OutS.seq_ret, OutS.seq_exc, OutS.seq_brk, OutS.seq_cont, lift_some, List.set_cons_succ, List.set_cons_zero, List.getElem?_cons_succ, List.getElem?_cons_zero, bin_add, bin_sub, bin_mul, bin_mod, bin_fdiv, bin_pow, bin_addL, bin_addT, bin_mulL, bin_mulT, cmp_eq, cmp_ne, cmp_mem, cmp_nmem, cmp_lt, cmp_le, cmp_gt, cmp_ge, view_int, view_bl, view_lst, view_tup, view_fz, view_tk, view_str, view_dk, view_non, idx_lst, idx_tup, idx_fz, idx_tk, Ev.bi_len, bi_abs, bi_int, bi_intb, bi_tuple, bi_list, bi_all, bi_any, bi_min2, bi_max2, bi_min1, bi_max1, bi_sum, bi_sorted, bi_isinst, recv_append, recv_extend, optI_nil, optI_one, Option.map_some, Option.bind_some, Bool.not_true, Bool.not_false, isNon_non, eqD_int, eqD_bl, decide_true, decide_false, if_true, if_false, Bool.false_eq_true, reduceIte, true_or, or_true, or_self, false_or, or_false, true_and, and_true, false_and, and_false, and_self, nats_len, rng_len, isC, OutS.turn_next, OutS.turn_ret, OutS.turn_cont, OutS.turn_brk, OutS.turn_exc, kt_NoneType_int, kt_NoneType_str, kt_NoneType_list, kt_NoneType_tuple, kt_NoneType_dict, kt_NoneType_bool, kt_bool_int, kt_bool_str, kt_bool_list, kt_bool_tuple, kt_bool_dict, kt_bool_bool, kt_int_int, kt_int_str, kt_int_list, kt_int_tuple, kt_int_dict, kt_int_bool, kt_str_int, kt_str_str, kt_str_list, kt_str_tuple, kt_str_dict, kt_str_bool, kt_list_int, kt_list_str, kt_list_list, kt_list_tuple, kt_list_dict, kt_list_bool, kt_tuple_int, kt_tuple_str, kt_tuple_list, kt_tuple_tuple, kt_tuple_dict, kt_tuple_bool, kt_dict_int, kt_dict_str, kt_dict_list, kt_dict_tuple, kt_dict_dict, kt_dict_bool, ty_non, ty_bl, ty_int, ty_str, ty_tup, ty_tk, ty_lst, ty_fz, isNon_bl, isNon_int, isNon_str, isNon_tupl, isNon_lstl, at0, at1, at2, at3, Int.reduceEq, Int.reduceLT, Int.reduceLE, Int.reduceSub, Int.reduceAdd, Int.reduceMul, List.length_cons, List.length_nil, List.length_append, Nat.zero_add, ww, w_take (k := k) hr, show (0 : Int) < 5 by decide, h1]) rfl
  rw [q]
  simp
end
/-- a drawn table -/
structure TbG (t : Tb) : Prop where
  ok : TbOk t
  ne : 0 < t.cols.length
  nodup : (t.cols.map (·.1)).Nodup
  kind : t.kind = (S [110, 117, 109, 98, 101, 114]) ∨ t.kind = (S [119, 111, 114, 100])
  nm : okNm t.name
  cn : ∀ c ∈ t.cols, okNm c.1
def nmI (W : Wd) (i : Nat) : Str := W.names.getD i (S [])
def rowsW (W : Wd) : List (Str × Str) := [(nmI W 3, (S [119, 111, 114, 100])), (nmI W 4, (S [110, 117, 109, 98, 101, 114])), (nmI W 5, (S [115, 117, 109])), (nmI W 6, (S [109, 111, 115, 116])), (nmI W 7, (S [108, 111, 116])), (nmI W 8, (S [115, 104, 97, 114, 101]))]
theorem nmI_get {W : Wd} (hW : WdOk W) {i : Nat} (hi : i < 9) : W.names[i]? = some (nmI W i) := by
  have : i < W.names.length := by rw [hW.nl]; exact hi
  unfold nmI
  rw [List.getD_eq_getElem?_getD, List.getElem?_eq_getElem this]; rfl
theorem nmI_ok {W : Wd} (hW : WdOk W) {i : Nat} (hi : i < 9) : okNm (nmI W i) := hW.nm _ (List.mem_of_getElem? (nmI_get hW hi))
theorem nmI_inj {W : Wd} (hW : WdOk W) {i j : Nat} (hi : i < 9) (hj : j < 9) (h : nmI W i = nmI W j) : i = j := by
  have h1 := nmI_get hW hi
  have h2 := nmI_get hW hj
  rw [h] at h1
  obtain ⟨q1, e1⟩ := List.getElem?_eq_some_iff.mp h1
  obtain ⟨q2, e2⟩ := List.getElem?_eq_some_iff.mp h2
  exact (List.getElem_inj hW.nd).mp (e1.trans e2.symm)
theorem rowsW_nodup {W : Wd} (hW : WdOk W) : ((rowsW W).map (·.1)).Nodup := by
  have key : ∀ l : List Nat, l.Nodup → (∀ i ∈ l, i < 9) → (l.map (nmI W)).Nodup := by
    intro l
    induction l with
    | nil => intro _ _; exact List.nodup_nil
    | cons x r ih =>
      intro h1 h2
      rw [List.nodup_cons] at h1
      rw [List.map_cons, List.nodup_cons]
      refine ⟨fun z => ?_, ih h1.2 fun i hi => h2 i (List.mem_cons_of_mem _ hi)⟩
      obtain ⟨y, hy, e⟩ := List.mem_map.mp z
      have := nmI_inj hW (h2 y (List.mem_cons_of_mem _ hy)) (h2 x (by simp)) e
      exact h1.1 (this ▸ hy)
  exact key [3, 4, 5, 6, 7, 8] (by decide) (by decide)
theorem rowsW_mem {W : Wd} (hW : WdOk W) : ∀ c ∈ rowsW W, okNm c.1 ∧ c.2 ∈ [(S [119, 111, 114, 100]), (S [110, 117, 109, 98, 101, 114]), (S [115, 117, 109]), (S [109, 111, 115, 116]), (S [108, 111, 116]), (S [115, 104, 97, 114, 101])] := by
  intro c hc
  simp only [rowsW, List.mem_cons, List.not_mem_nil, or_false] at hc
  rcases hc with rfl | rfl | rfl | rfl | rfl | rfl
  · exact ⟨nmI_ok hW (by decide), by simp⟩
  · exact ⟨nmI_ok hW (by decide), by simp⟩
  · exact ⟨nmI_ok hW (by decide), by simp⟩
  · exact ⟨nmI_ok hW (by decide), by simp⟩
  · exact ⟨nmI_ok hW (by decide), by simp⟩
  · exact ⟨nmI_ok hW (by decide), by simp⟩
theorem rot_nodup {l : List (Str × Str)} (h : (l.map (·.1)).Nodup) (i m : Nat) : (((l.drop i ++ l.take i).take m).map (·.1)).Nodup := by
  rw [List.map_take]
  refine (List.take_sublist _ _).nodup ?_
  rw [List.map_append]
  have e : (l.map (·.1)).drop i ++ (l.map (·.1)).take i = (l.drop i).map (·.1) ++ (l.take i).map (·.1) := by rw [List.map_drop, List.map_take]
  rw [← e]
  have h2 : ((l.map (·.1)).take i ++ (l.map (·.1)).drop i).Nodup := by rw [List.take_append_drop]; exact h
  exact (List.perm_append_comm.nodup_iff).mp h2
theorem rot_memW {l : List (Str × Str)} {i m : Nat} {c : Str × Str} (h : c ∈ (l.drop i ++ l.take i).take m) : c ∈ l := by
  rcases List.mem_append.mp (List.mem_of_mem_take h) with h | h
  · exact List.mem_of_mem_drop h
  · exact List.mem_of_mem_take h
theorem okNm_len {w : Str} (h : okNm w) : w.length ≤ 1000 := by have := h.2.1; omega
theorem TbG_of {W : Wd} (hW : WdOk W) {x kd : Str} {i n : Nat} (hx : okNm x) (hk : kd = (S [110, 117, 109, 98, 101, 114]) ∨ kd = (S [119, 111, 114, 100])) (hi : i < 6) (h1 : 1 ≤ n) (h6 : n ≤ 6) : TbG ⟨x, kd, ((rowsW W).drop i ++ (rowsW W).take i).take n⟩ := by
  have hlen : (((rowsW W).drop i ++ (rowsW W).take i).take n).length = n := by
    rw [List.length_take, List.length_append, List.length_drop, List.length_take]
    have : (rowsW W).length = 6 := rfl
    omega
  have hr : ∀ c ∈ [(S [119, 111, 114, 100]), (S [110, 117, 109, 98, 101, 114]), (S [115, 117, 109]), (S [109, 111, 115, 116]), (S [108, 111, 116]), (S [115, 104, 97, 114, 101])], c.length ≤ 1000 := by decide
  refine ⟨⟨okNm_len hx, by rcases hk with rfl | rfl; exact (by decide : ((S [110, 117, 109, 98, 101, 114])).length ≤ 1000); exact (by decide : ((S [119, 111, 114, 100])).length ≤ 1000), fun c hc => ?_, by rw [hlen]; omega, fun c hc => (rowsW_mem hW c (rot_memW hc)).2⟩, by rw [hlen]; omega, rot_nodup (rowsW_nodup hW) i n, hk, hx, fun c hc => (rowsW_mem hW c (rot_memW hc)).1⟩
  have := rowsW_mem hW c (rot_memW hc)
  exact ⟨okNm_len this.1, hr _ this.2⟩
theorem cut_hiD {xs : List D} {n : Nat} : cutD xs none (some (n : Int)) = xs.take n := by
  unfold cutD
  rw [HT.sIx_none, HT.sIx_nat]
  simp
theorem cut_loD {xs : List D} {n : Nat} : cutD xs (some (n : Int)) none = xs.drop n := by
  unfold cutD
  rw [HT.sIx_nat]
  unfold HT.sIx
  dsimp only
  by_cases h : n ≤ xs.length
  · rw [Nat.min_eq_left h, List.take_of_length_le (by simp)]
  · rw [Nat.min_eq_right (by omega), Nat.sub_self, List.take_zero, List.drop_of_length_le (by omega)]
theorem tbs_loG {T : List Tb} (h : ∀ t ∈ T, TbOk t) {f : Nat} : D.los f (T.map tbD) = true := by
  refine thgs_lo (L := 100) _ 3 (thgs_mem.mpr fun x hx => ?_)
  obtain ⟨t, ht, rfl⟩ := List.mem_map.mp hx
  exact (h t ht).thg
theorem app_2 {d0 d1 : D} {l : List Tb} {t : Tb} (hl : l.length < 100) : bmD 2 .append (.ref 2) [tbD t] [d0, d1, .lst (l.map tbD)] = .ok .non [d0, d1, .lst ((l ++ [t]).map tbD)] := by
  have hz : SZ = 16777216 := rfl
  unfold bmD
  show (if (l.map tbD).length < SZ ∧ wrOk _ _ _ = true then _ else _) = _
  rw [if_pos ⟨by rw [List.length_map]; omega, by unfold wrOk; simp⟩]
  simp
section
variable {k fl : Nat} {rw : List Nat} {W : Wd}
theorem schema_l1 {a : Nat} {x : Str} {T : List Tb} {y4 y5 y6 : Option D} (hr : rw.length = 400) (hW : WdOk W) (hx : okNm x) (hT : T.length ≤ 10) :
    ∃ t z4 z5 z6, TbG t ∧ t.name = x ∧ evSs G (run G (k + 1) 2) 2 b__law_schema_l1 [some (.ref 0), some (.ref 2), some (.ref 1), some (.str x), y4, y5, y6] [wcell rw a W, wnm W, .lst (T.map tbD)] =
      .next [some (.ref 0), some (.ref 2), some (.ref 1), some (.str x), z4, z5, z6] [wcell rw (a + 3) W, wnm W, .lst ((T ++ [t]).map tbD)] := by
  have hz : SZ = 16777216 := rfl
  obtain ⟨i, hi⟩ : ∃ i : Nat, tk rw a % 6 = i := ⟨_, rfl⟩
  have hi' : (tk rw a : Int) % 6 = (i : Int) := by omega
  obtain ⟨M, hM, hM6⟩ : ∃ M : Nat, (∀ st, (binD st .mul (.int 2) (.int (if W.wide = true then 1 else 0))).bind (fun v => binD st .add (.int 4) v) = some (.int (M : Int))) ∧ (M = 4 ∨ M = 6) := by
    cases W.wide
    · exact ⟨4, fun st => rfl, .inl rfl⟩
    · exact ⟨6, fun st => rfl, .inr rfl⟩
  obtain ⟨dw, hdw⟩ : ∃ dw : Int, (if W.wide = true then (1 : Int) else 0) = dw := ⟨_, rfl⟩
  have hdw2 : dw = 0 ∨ dw = 1 := by rw [← hdw]; cases W.wide <;> simp
  obtain ⟨M, hMe, hM6⟩ : ∃ M : Nat, 4 + 2 * dw = (M : Int) ∧ (M = 4 ∨ M = 6) := by
    rcases hdw2 with h | h
    · exact ⟨4, by omega, .inl rfl⟩
    · exact ⟨6, by omega, .inr rfl⟩
  have hmul : mulOk 2 dw = true := mulOk_of (.inl (by decide))
  have hM0 : (0 : Int) < (M : Int) := by omega
  obtain ⟨n, hn⟩ : ∃ n : Nat, 1 + tk rw (a + 1) % M = n := ⟨_, rfl⟩
  have hnlt := Nat.mod_lt (tk rw (a + 1)) (show 0 < M by omega)
  have hn' : (1 : Int) + (tk rw (a + 1) : Int) % (M : Int) = (n : Int) := by rw [← hn]; simp
  obtain ⟨kd, hkd, hkm⟩ := pick (xs := [D.str (S [110, 117, 109, 98, 101, 114]), .str (S [119, 111, 114, 100])]) (t := tk rw (a + 2)) (n := 2) rfl (by decide)
  rw [show ((2 : Nat) : Int) = 2 from rfl] at hkd
  have hk : ∃ s : Str, kd = .str s ∧ (s = (S [110, 117, 109, 98, 101, 114]) ∨ s = (S [119, 111, 114, 100])) := by
    simp only [List.mem_cons, List.not_mem_nil, or_false] at hkm
    rcases hkm with rfl | rfl
    · exact ⟨_, rfl, .inl rfl⟩
    · exact ⟨_, rfl, .inr rfl⟩
  obtain ⟨s, rfl, hs⟩ := hk
  have hnm : ∀ (d : D) (i : Nat), i < 9 → idxD [d, wnm W, .lst (T.map tbD)] (.ref 1) (.int (i : Int)) = some (.str (nmI W i)) := fun d i hi => by
    rw [idx_view (xs := W.names.map D.str) rfl, atI_of (by omega), Int.toNat_natCast, List.getElem?_map, nmI_get hW hi]
    rfl
  have n3 := fun d => hnm d 3 (by decide)
  have n4 := fun d => hnm d 4 (by decide)
  have n5 := fun d => hnm d 5 (by decide)
  have n6 := fun d => hnm d 6 (by decide)
  have n7 := fun d => hnm d 7 (by decide)
  have n8 := fun d => hnm d 8 (by decide)
  rw [show ((3 : Nat) : Int) = 3 from rfl] at n3
  rw [show ((4 : Nat) : Int) = 4 from rfl] at n4
  rw [show ((5 : Nat) : Int) = 5 from rfl] at n5
  rw [show ((6 : Nat) : Int) = 6 from rfl] at n6
  rw [show ((7 : Nat) : Int) = 7 from rfl] at n7
  rw [show ((8 : Nat) : Int) = 8 from rfl] at n8
  have hrows : [D.tup [.str (nmI W 3), .str (S [119, 111, 114, 100])], .tup [.str (nmI W 4), .str (S [110, 117, 109, 98, 101, 114])], .tup [.str (nmI W 5), .str (S [115, 117, 109])], .tup [.str (nmI W 6), .str (S [109, 111, 115, 116])], .tup [.str (nmI W 7), .str (S [108, 111, 116])], .tup [.str (nmI W 8), .str (S [115, 104, 97, 114, 101])]] = (rowsW W).map colD := rfl
  have h6 : ((rowsW W).drop i).length + ((rowsW W).take i).length ≤ SZ := by simp [rowsW]; omega
  have hap := app_2 (d0 := wcell rw (a + 3) W) (d1 := wnm W) (l := T) (t := ⟨x, s, ((rowsW W).drop i ++ (rowsW W).take i).take n⟩) (by omega)
  have htb : tbD ⟨x, s, ((rowsW W).drop i ++ (rowsW W).take i).take n⟩ = .tup [.str x, .str s, .tup ((((rowsW W).drop i ++ (rowsW W).take i).take n).map colD)] := rfl
  rw [htb] at hap
  have wid := fun (a : Nat) => w_wide (rw := rw) (a := a) (W := W) (e := [wnm W, .lst (T.map tbD)])
  refine ⟨⟨x, s, ((rowsW W).drop i ++ (rowsW W).take i).take n⟩, some (.lst ((rowsW W).map colD)), some (.int (i : Int)), some (.lst ((((rowsW W).drop i ++ (rowsW W).take i).take n).map colD)), TbG_of hW hx hs (by omega) (by omega) (by omega), rfl, ?_⟩
  unfold b__law_schema_l1
  simp only [ss_cons, ss_nil, s_set, s_sets, s_put, s_expr, s_ret, s_retN, s_if, s_for1, s_for2, s_for3, s_for4, s_for5, s_brk, s_cont, s_raise, fb_one, fb_many, fb_manyK, lb_one, lb_many, e_non, e_bool, e_int, e_str, e_var, e_gf, e_tyE, e_bin, e_neg, e_nt, e_and, e_or, e_cmp, e_chain, e_isN, e_notN, e_isB, e_notB, e_call, e_bi, e_listR1, e_listR2, e_idx, e_slc, e_tupE, e_lstE, e_box, e_bm, es_nil, es_cons, et_nil, et_cons, ea_one, ea_cons, eo_one, eo_cons, ei_rng1, ei_rng2, ei_seq, ei_rev, e_lc1, e_lc2, e_lc3, e_lc4, e_lc5, e_bits, e_sset, ei_rng3, recv_index, idx_str, bi_ord, bi_str, bin_mulS, bin_addS, cmp_ltS, cmp_leS, cmp_gtS, cmp_geS, eqD_str, setSlots_nil, setSlots_cons, asg_many, asg_manyK, slc_lst, slc_tup, wipeD, Out.bind_ok, Out.bind_exc, Out.noX_ok, Out.thenS_ok, Out.thenS_exc, OutS.seq_next, OutS.seq_ret, OutS.seq_exc, OutS.seq_brk, OutS.seq_cont, lift_some, List.set_cons_succ, List.set_cons_zero, List.getElem?_cons_succ, List.getElem?_cons_zero, bin_add, bin_sub, bin_mul, bin_mod, bin_fdiv, bin_pow, bin_addL, bin_addT, bin_mulL, bin_mulT, cmp_eq, cmp_ne, cmp_mem, cmp_nmem, cmp_lt, cmp_le, cmp_gt, cmp_ge, view_int, view_bl, view_lst, view_tup, view_fz, view_tk, view_str, view_dk, view_non, idx_lst, idx_tup, idx_fz, idx_tk, Ev.bi_len, bi_abs, bi_int, bi_intb, bi_tuple, bi_list, bi_all, bi_any, bi_min2, bi_max2, bi_min1, bi_max1, bi_sum, bi_sorted, bi_isinst, recv_append, recv_extend, optI_nil, optI_one, Option.map_some, Option.bind_some, Bool.not_true, Bool.not_false, isNon_non, eqD_int, eqD_bl, decide_true, decide_false, if_true, if_false, Bool.false_eq_true, reduceIte, true_or, or_true, or_self, false_or, or_false, true_and, and_true, false_and, and_false, and_self, nats_len, rng_len, isC, OutS.turn_next, OutS.turn_ret, OutS.turn_cont, OutS.turn_brk, OutS.turn_exc, kt_NoneType_int, kt_NoneType_str, kt_NoneType_list, kt_NoneType_tuple, kt_NoneType_dict, kt_NoneType_bool, kt_bool_int, kt_bool_str, kt_bool_list, kt_bool_tuple, kt_bool_dict, kt_bool_bool, kt_int_int, kt_int_str, kt_int_list, kt_int_tuple, kt_int_dict, kt_int_bool, kt_str_int, kt_str_str, kt_str_list, kt_str_tuple, kt_str_dict, kt_str_bool, kt_list_int, kt_list_str, kt_list_list, kt_list_tuple, kt_list_dict, kt_list_bool, kt_tuple_int, kt_tuple_str, kt_tuple_list, kt_tuple_tuple, kt_tuple_dict, kt_tuple_bool, kt_dict_int, kt_dict_str, kt_dict_list, kt_dict_tuple, kt_dict_dict, kt_dict_bool, ty_non, ty_bl, ty_int, ty_str, ty_tup, ty_tk, ty_lst, ty_fz, isNon_bl, isNon_int, isNon_str, isNon_tupl, isNon_lstl, at0, at1, at2, at3, Int.reduceEq, Int.reduceLT, Int.reduceLE, Int.reduceSub, Int.reduceAdd, Int.reduceMul, List.length_cons, List.length_nil, List.length_append, Nat.zero_add, n3, n4, n5, n6, n7, n8, hrows, w_take (k := k) hr, show (0 : Int) < 6 by decide, hi', cut_loD, cut_hiD, ← List.map_drop, ← List.map_take, List.length_map, h6, ← List.map_append, wid, bi_intb, hdw, hmul, hMe, hM0, hn', show (0 : Int) < 2 by decide, hkd, view_ref, Option.getD_some, hap]
theorem r_schemaW {a : Nat} (hr : rw.length = 400) (hW : WdOk W) : ∃ (T : List Tb) (a' : Nat), run G (k + 2) fl i__law_schema [.ref 0] [wcell rw a W, wnm W] = .ok (schD T) [wcell rw a' W, wnm W] ∧ T ≠ [] ∧ T.length ≤ 3 ∧ (∀ t ∈ T, TbG t) ∧ (T.map (·.name)).Nodup ∧ a' ≤ a + 10 := by
  have hz : SZ = 16777216 := rfl
  obtain ⟨m, hm⟩ : ∃ m : Nat, 1 + tk rw a % 3 = m := ⟨_, rfl⟩
  have hm' : (1 : Int) + (tk rw a : Int) % 3 = (m : Int) := by omega
  have hm3 : 1 ≤ m ∧ m ≤ 3 := by omega
  obtain ⟨nms, hnms⟩ : ∃ nms, W.names.take m = nms := ⟨_, rfl⟩
  have hnl : nms.length = m := by rw [← hnms, List.length_take, hW.nl]; omega
  have loop : ∀ (ns : List Str) (T : List Tb) (a : Nat) (y3 y4 y5 y6 : Option D), (∀ x ∈ ns, okNm x) → T.length + ns.length ≤ 10 → ∃ T' z3 z4 z5 z6, T'.map (·.name) = ns ∧ (∀ t ∈ T', TbG t) ∧
      forGo (fb G (run G (k + 1) 2) 2 (.one 3) b__law_schema_l1) (ns.map D.str) [some (.ref 0), some (.ref 2), some (.ref 1), y3, y4, y5, y6] [wcell rw a W, wnm W, .lst (T.map tbD)] = .next [some (.ref 0), some (.ref 2), some (.ref 1), z3, z4, z5, z6] [wcell rw (a + 3 * ns.length) W, wnm W, .lst ((T ++ T').map tbD)] := by
    intro ns
    induction ns with
    | nil => intro T a y3 y4 y5 y6 _ _; exact ⟨[], y3, y4, y5, y6, rfl, (by intro t h; cases h), by rw [List.append_nil]; rfl⟩
    | cons x ns ih =>
      intro T a y3 y4 y5 y6 hx hl
      rw [List.length_cons] at hl
      obtain ⟨t, z4, z5, z6, ht, hn, e⟩ := schema_l1 (k := k) (a := a) (x := x) (T := T) (y4 := y4) (y5 := y5) (y6 := y6) hr hW (hx x List.mem_cons_self) (by omega)
      obtain ⟨T', w3, w4, w5, w6, h1, h2, e2⟩ := ih (T ++ [t]) (a + 3) (some (.str x)) z4 z5 z6 (fun y hy => hx y (List.mem_cons_of_mem _ hy)) (by simp; omega)
      refine ⟨t :: T', w3, w4, w5, w6, by rw [List.map_cons, h1, hn], fun u hu => ?_, ?_⟩
      · rcases List.mem_cons.mp hu with rfl | hu
        · exact ht
        · exact h2 u hu
      · rw [List.map_cons, forGo, fb_one]
        simp only [List.set_cons_succ, List.set_cons_zero]
        rw [e, OutS.turn_next, e2, List.append_assoc, List.length_cons, Nat.mul_add, Nat.mul_one, Nat.add_assoc, Nat.add_comm 3]
        rfl
  obtain ⟨T, z3, z4, z5, z6, h1, h2, e⟩ := loop nms [] (a + 1) none none none none (fun x hx => by
    rw [← hnms] at hx
    exact hW.nm x (List.mem_of_mem_take hx)) (by simp; omega)
  have hTl : T.length = m := by rw [← List.length_map (f := (·.name)), h1, hnl]
  refine ⟨T, a + 1 + 3 * nms.length, ?_, fun z => by rw [z] at hTl; simp at hTl; omega, by omega, h2, ?_, by omega⟩
  · rw [List.nil_append, List.map_nil] at e
    have wn := w_names (rw := rw) (a := a) (W := W) (e := [wnm W, .lst []])
    have hsl : ∀ d, slcD [d, wnm W, .lst []] (.ref 1) none (some (m : Int)) = some (.lst (nms.map D.str)) := fun d => by
      rw [slc_view (xs := W.names.map D.str) rfl, cut_hiD, ← List.map_take, hnms]
    refine run_popS (F := f__law_schema) (ds := [.ref 0]) (st' := [wcell rw (a + 1 + 3 * nms.length) W, wnm W, .lst (T.map tbD)]) (d := schD T) rfl rfl rfl ?_ ?_
    · show evSs G (run G (k + 1) 2) 2 b__law_schema [some (.ref 0), none, none, none, none, none, none] [wcell rw a W, wnm W] = _
      unfold b__law_schema
      simp only [ss_cons, ss_nil, s_set, s_sets, s_put, s_expr, s_ret, s_retN, s_if, s_for1, s_for2, s_for3, s_for4, s_for5, s_brk, s_cont, s_raise, fb_one, fb_many, fb_manyK, lb_one, lb_many, e_non, e_bool, e_int, e_str, e_var, e_gf, e_tyE, e_bin, e_neg, e_nt, e_and, e_or, e_cmp, e_chain, e_isN, e_notN, e_isB, e_notB, e_call, e_bi, e_listR1, e_listR2, e_idx, e_slc, e_tupE, e_lstE, e_box, e_bm, es_nil, es_cons, et_nil, et_cons, ea_one, ea_cons, eo_one, eo_cons, ei_rng1, ei_rng2, ei_seq, ei_rev, e_lc1, e_lc2, e_lc3, e_lc4, e_lc5, e_bits, e_sset, ei_rng3, recv_index, idx_str, bi_ord, bi_str, bin_mulS, bin_addS, cmp_ltS, cmp_leS, cmp_gtS, cmp_geS, eqD_str, setSlots_nil, setSlots_cons, asg_many, asg_manyK, slc_lst, slc_tup, wipeD, Out.bind_ok, Out.bind_exc, Out.noX_ok, Out.thenS_ok, Out.thenS_exc, OutS.seq_next, OutS.seq_ret, OutS.seq_exc, OutS.seq_brk, OutS.seq_cont, lift_some, List.set_cons_succ, List.set_cons_zero, List.getElem?_cons_succ, List.getElem?_cons_zero, bin_add, bin_sub, bin_mul, bin_mod, bin_fdiv, bin_pow, bin_addL, bin_addT, bin_mulL, bin_mulT, cmp_eq, cmp_ne, cmp_mem, cmp_nmem, cmp_lt, cmp_le, cmp_gt, cmp_ge, view_int, view_bl, view_lst, view_tup, view_fz, view_tk, view_str, view_dk, view_non, idx_lst, idx_tup, idx_fz, idx_tk, Ev.bi_len, bi_abs, bi_int, bi_intb, bi_tuple, bi_list, bi_all, bi_any, bi_min2, bi_max2, bi_min1, bi_max1, bi_sum, bi_sorted, bi_isinst, recv_append, recv_extend, optI_nil, optI_one, Option.map_some, Option.bind_some, Bool.not_true, Bool.not_false, isNon_non, eqD_int, eqD_bl, decide_true, decide_false, if_true, if_false, Bool.false_eq_true, reduceIte, true_or, or_true, or_self, false_or, or_false, true_and, and_true, false_and, and_false, and_self, nats_len, rng_len, isC, OutS.turn_next, OutS.turn_ret, OutS.turn_cont, OutS.turn_brk, OutS.turn_exc, kt_NoneType_int, kt_NoneType_str, kt_NoneType_list, kt_NoneType_tuple, kt_NoneType_dict, kt_NoneType_bool, kt_bool_int, kt_bool_str, kt_bool_list, kt_bool_tuple, kt_bool_dict, kt_bool_bool, kt_int_int, kt_int_str, kt_int_list, kt_int_tuple, kt_int_dict, kt_int_bool, kt_str_int, kt_str_str, kt_str_list, kt_str_tuple, kt_str_dict, kt_str_bool, kt_list_int, kt_list_str, kt_list_list, kt_list_tuple, kt_list_dict, kt_list_bool, kt_tuple_int, kt_tuple_str, kt_tuple_list, kt_tuple_tuple, kt_tuple_dict, kt_tuple_bool, kt_dict_int, kt_dict_str, kt_dict_list, kt_dict_tuple, kt_dict_dict, kt_dict_bool, ty_non, ty_bl, ty_int, ty_str, ty_tup, ty_tk, ty_lst, ty_fz, isNon_bl, isNon_int, isNon_str, isNon_tupl, isNon_lstl, at0, at1, at2, at3, Int.reduceEq, Int.reduceLT, Int.reduceLE, Int.reduceSub, Int.reduceAdd, Int.reduceMul, List.length_cons, List.length_nil, List.length_append, Nat.zero_add, List.cons_append, List.nil_append, wn, w_take (k := k) hr, show (0 : Int) < 3 by decide, hm', hsl, e, view_ref, Option.getD_some]
      rfl
    · unfold unbox schD
      dsimp only
      exact if_pos (tbs_loG fun t ht => (h2 t ht).ok)
  · rw [h1, ← hnms]
    exact (List.take_sublist _ _).nodup hW.nd
end
/-! ### numbers and words alike; judgements -/
inductive OV where
  | i (n : Int)
  | s (x : Str)
deriving DecidableEq
def OV.d : OV → D
  | .i n => .int n
  | .s x => .str x
def OV.k : OV → Bool
  | .i _ => true
  | .s _ => false
def ltO : OV → OV → Bool
  | .i a, .i b => decide (a < b)
  | .s a, .s b => ltS a b
  | _, _ => false
theorem ltO_irr (a : OV) : ltO a a = false := by
  cases a with
  | i n => simp [ltO]
  | s x => exact ltS_irr x
theorem leO_trans {a b c : OV} (h1 : a.k = b.k) (h2 : b.k = c.k) (x : ltO b a = false) (y : ltO c b = false) : ltO c a = false := by
  cases a <;> cases b <;> simp [OV.k] at h1 <;> cases c <;> simp [OV.k] at h2
  · simp [ltO] at *; omega
  · exact ltS_trans' x y
theorem ltO_le {a b : OV} (h : a.k = b.k) (x : ltO a b = true) : ltO b a = false := by
  cases a <;> cases b <;> simp [OV.k] at h
  · simp [ltO] at *; omega
  · exact ltS_asymm x
theorem leO_anti {a b : OV} (h : a.k = b.k) (x : ltO b a = false) (y : ltO a b = false) : a = b := by
  cases a <;> cases b <;> simp [OV.k] at h
  · simp [ltO] at *; omega
  · rw [ltS_anti x y]
section
variable {st : Sto} {a b : OV}
theorem eq_O : eqD st a.d b.d = some (decide (a = b)) := by
  cases a <;> cases b
  · simp [OV.d]
  · unfold eqD; simp [OV.d, okN, eqv]
  · unfold eqD; simp [OV.d, okN, eqv]
  · simp [OV.d]
theorem lt_O (h : a.k = b.k) : cmpD st .lt a.d b.d = some (ltO a b) := by
  cases a <;> cases b <;> simp [OV.k] at h
  · rfl
  · rfl
theorem gt_O (h : a.k = b.k) : cmpD st .gt a.d b.d = some (ltO b a) := by
  cases a <;> cases b <;> simp [OV.k] at h
  · simp only [OV.d, cmp_gt, ltO]
  · rfl
theorem le_O (h : a.k = b.k) : cmpD st .le a.d b.d = some (!ltO b a) := by
  cases a <;> cases b <;> simp [OV.k] at h
  · rename_i m n
    simp only [OV.d, cmp_le, ltO]
    by_cases h : n < m
    · simp [h]
    · simp [h]; omega
  · rfl
theorem ge_O (h : a.k = b.k) : cmpD st .ge a.d b.d = some (!ltO a b) := by
  cases a <;> cases b <;> simp [OV.k] at h
  · rename_i m n
    simp only [OV.d, cmp_ge, ltO]
    by_cases h : m < n
    · simp [h]
    · simp [h]; omega
  · rfl
end
theorem dO {a : OV} : okN 60 a.d = true := by cases a <;> simp [OV.d, okN]
/-! ### cells -/
inductive Cell where
  | v (o : OV)
  | lot (ws : List Str)
  | sh (ns : List Int)
theorem zs_lo {f : Nat} : ∀ l : List Int, D.los f (zs l) = true
  | [] => rfl
  | _ :: r => by
    show (_ && D.los f (zs r)) = true
    rw [zs_lo r]; rfl
theorem toInts_zs : ∀ l : List Int, toInts (zs l) = some l
  | [] => rfl
  | x :: r => by show (toInts (zs r)).map _ = _; rw [toInts_zs r]; rfl
theorem strs_lo {f : Nat} : ∀ l : List Str, D.los f (l.map D.str) = true
  | [] => rfl
  | _ :: r => by
    show (_ && D.los f (r.map D.str)) = true
    rw [strs_lo r]; rfl
theorem toStrs_strs : ∀ l : List Str, toStrs (l.map D.str) = some l
  | [] => rfl
  | x :: r => by show (toStrs (r.map D.str)).map _ = _; rw [toStrs_strs r]; rfl
def Cell.d : Cell → D
  | .v o => o.d
  | .lot ws => .tup (ws.map D.str)
  | .sh ns => .tup (zs ns)
theorem OV.lo {f : Nat} {o : OV} : D.lo f o.d = true := by cases o <;> rfl
theorem Cell.lo {f : Nat} {c : Cell} : D.lo f c.d = true := by
  cases c with
  | v o => exact OV.lo
  | lot ws => exact strs_lo ws
  | sh ns => exact zs_lo ns
theorem cells_lo {f : Nat} : ∀ cs : List Cell, D.los f (cs.map Cell.d) = true
  | [] => rfl
  | c :: r => by
    show (D.lo f c.d && D.los f (r.map Cell.d)) = true
    rw [Cell.lo, cells_lo r]; rfl
theorem unboxO {fl : Nat} {st : Sto} {o : OV} : unbox fl st o.d = some o.d := by
  cases o <;> rfl
def suits (r : Str) : Cell → Prop
  | .v (.s _) => r = (S [119, 111, 114, 100])
  | .v (.i _) => r = (S [110, 117, 109, 98, 101, 114]) ∨ r = (S [115, 117, 109]) ∨ r = (S [109, 111, 115, 116])
  | .lot _ => r = (S [108, 111, 116])
  | .sh _ => r = (S [115, 104, 97, 114, 101])
def fig : Cell → OV
  | .v o => o
  | .sh ns => .i ns.sum
  | .lot _ => .i 0
def mems : Cell → List OV
  | .lot ws => ws.map OV.s
  | c => [fig c]
/-- what kind of members a column has: true for numbers -/
def rk (r : Str) : Bool := !decide (r = (S [119, 111, 114, 100]) ∨ r = (S [108, 111, 116]))
theorem mems_k {r : Str} {c : Cell} (h : suits r c) : ∀ m ∈ mems c, m.k = rk r := fun m hm => by
  cases c with
  | v o =>
    cases o with
    | i n =>
      simp [mems, fig] at hm
      subst hm
      show true = rk r
      rcases h with rfl | rfl | rfl <;> decide
    | s x =>
      simp [mems, fig] at hm
      subst hm
      have h : r = (S [119, 111, 114, 100]) := h
      subst h
      show false = _
      decide
  | lot ws =>
    simp [mems] at hm
    obtain ⟨x, _, rfl⟩ := hm
    have h : r = (S [108, 111, 116]) := h
    subst h
    show false = _
    decide
  | sh ns =>
    simp [mems, fig] at hm
    subst hm
    have h : r = (S [115, 104, 97, 114, 101]) := h
    subst h
    show true = _
    decide
section
variable {k fl : Nat} {st : Sto}
theorem r_sum_of {r : Str} {c : Cell} (h : suits r c) (hl : r ≠ (S [108, 111, 116])) : run G (k + 1) fl i_sum_of [.str r, c.d] st = .ok (fig c).d st := by
  refine run_v (F := f_sum_of) rfl rfl rfl unboxO ?_
  show evSs G _ _ b_sum_of [some (.str r), some c.d] st = _
  unfold b_sum_of
  cases c with
  | v o =>
    have hr : (r = (S [115, 104, 97, 114, 101])) = False := by
      refine eq_false fun e => ?_
      subst e
      cases o with
      | i n => rcases h with h | h | h <;> exact absurd h (by decide)
      | s x => exact absurd h (show (S [115, 104, 97, 114, 101]) ≠ (S [119, 111, 114, 100]) by decide)
    simp only [ss_cons, ss_nil, s_set, s_sets, s_put, s_expr, s_ret, s_retN, s_if, s_for1, s_for2, s_for3, s_for4, s_for5, s_brk, s_cont, s_raise, fb_one, fb_many, fb_manyK, lb_one, lb_many, e_non, e_bool, e_int, e_str, e_var, e_gf, e_tyE, e_bin, e_neg, e_nt, e_and, e_or, e_cmp, e_chain, e_isN, e_notN, e_isB, e_notB, e_call, e_bi, e_listR1, e_listR2, e_idx, e_slc, e_tupE, e_lstE, e_box, e_bm, es_nil, es_cons, et_nil, et_cons, ea_one, ea_cons, eo_one, eo_cons, ei_rng1, ei_rng2, ei_seq, ei_rev, e_lc1, e_lc2, e_lc3, e_lc4, e_lc5, e_bits, e_sset, ei_rng3, recv_index, idx_str, bi_ord, bi_str, bin_mulS, bin_addS, cmp_ltS, cmp_leS, cmp_gtS, cmp_geS, eqD_str, setSlots_nil, setSlots_cons, asg_many, asg_manyK, slc_lst, slc_tup, wipeD, Out.bind_ok, Out.bind_exc, Out.noX_ok, Out.thenS_ok, Out.thenS_exc, OutS.seq_next, OutS.seq_ret, OutS.seq_exc, OutS.seq_brk, OutS.seq_cont, lift_some, List.set_cons_succ, List.set_cons_zero, List.getElem?_cons_succ, List.getElem?_cons_zero, bin_add, bin_sub, bin_mul, bin_mod, bin_fdiv, bin_pow, bin_addL, bin_addT, bin_mulL, bin_mulT, cmp_eq, cmp_ne, cmp_mem, cmp_nmem, cmp_lt, cmp_le, cmp_gt, cmp_ge, view_int, view_bl, view_lst, view_tup, view_fz, view_tk, view_str, view_dk, view_non, idx_lst, idx_tup, idx_fz, idx_tk, Ev.bi_len, bi_abs, bi_int, bi_intb, bi_tuple, bi_list, bi_all, bi_any, bi_min2, bi_max2, bi_min1, bi_max1, bi_sum, bi_sorted, bi_isinst, recv_append, recv_extend, optI_nil, optI_one, Option.map_some, Option.bind_some, Bool.not_true, Bool.not_false, isNon_non, eqD_int, eqD_bl, decide_true, decide_false, if_true, if_false, Bool.false_eq_true, reduceIte, true_or, or_true, or_self, false_or, or_false, true_and, and_true, false_and, and_false, and_self, nats_len, rng_len, isC, OutS.turn_next, OutS.turn_ret, OutS.turn_cont, OutS.turn_brk, OutS.turn_exc, kt_NoneType_int, kt_NoneType_str, kt_NoneType_list, kt_NoneType_tuple, kt_NoneType_dict, kt_NoneType_bool, kt_bool_int, kt_bool_str, kt_bool_list, kt_bool_tuple, kt_bool_dict, kt_bool_bool, kt_int_int, kt_int_str, kt_int_list, kt_int_tuple, kt_int_dict, kt_int_bool, kt_str_int, kt_str_str, kt_str_list, kt_str_tuple, kt_str_dict, kt_str_bool, kt_list_int, kt_list_str, kt_list_list, kt_list_tuple, kt_list_dict, kt_list_bool, kt_tuple_int, kt_tuple_str, kt_tuple_list, kt_tuple_tuple, kt_tuple_dict, kt_tuple_bool, kt_dict_int, kt_dict_str, kt_dict_list, kt_dict_tuple, kt_dict_dict, kt_dict_bool, ty_non, ty_bl, ty_int, ty_str, ty_tup, ty_tk, ty_lst, ty_fz, isNon_bl, isNon_int, isNon_str, isNon_tupl, isNon_lstl, at0, at1, at2, at3, Int.reduceEq, Int.reduceLT, Int.reduceLE, Int.reduceSub, Int.reduceAdd, Int.reduceMul, List.length_cons, List.length_nil, List.length_append, Nat.zero_add, hr]
    rfl
  | lot ws => exact absurd h hl
  | sh ns =>
    have hr : (r = (S [115, 104, 97, 114, 101])) = True := eq_true h
    simp only [ss_cons, ss_nil, s_set, s_sets, s_put, s_expr, s_ret, s_retN, s_if, s_for1, s_for2, s_for3, s_for4, s_for5, s_brk, s_cont, s_raise, fb_one, fb_many, fb_manyK, lb_one, lb_many, e_non, e_bool, e_int, e_str, e_var, e_gf, e_tyE, e_bin, e_neg, e_nt, e_and, e_or, e_cmp, e_chain, e_isN, e_notN, e_isB, e_notB, e_call, e_bi, e_listR1, e_listR2, e_idx, e_slc, e_tupE, e_lstE, e_box, e_bm, es_nil, es_cons, et_nil, et_cons, ea_one, ea_cons, eo_one, eo_cons, ei_rng1, ei_rng2, ei_seq, ei_rev, e_lc1, e_lc2, e_lc3, e_lc4, e_lc5, e_bits, e_sset, ei_rng3, recv_index, idx_str, bi_ord, bi_str, bin_mulS, bin_addS, cmp_ltS, cmp_leS, cmp_gtS, cmp_geS, eqD_str, setSlots_nil, setSlots_cons, asg_many, asg_manyK, slc_lst, slc_tup, wipeD, Out.bind_ok, Out.bind_exc, Out.noX_ok, Out.thenS_ok, Out.thenS_exc, OutS.seq_next, OutS.seq_ret, OutS.seq_exc, OutS.seq_brk, OutS.seq_cont, lift_some, List.set_cons_succ, List.set_cons_zero, List.getElem?_cons_succ, List.getElem?_cons_zero, bin_add, bin_sub, bin_mul, bin_mod, bin_fdiv, bin_pow, bin_addL, bin_addT, bin_mulL, bin_mulT, cmp_eq, cmp_ne, cmp_mem, cmp_nmem, cmp_lt, cmp_le, cmp_gt, cmp_ge, view_int, view_bl, view_lst, view_tup, view_fz, view_tk, view_str, view_dk, view_non, idx_lst, idx_tup, idx_fz, idx_tk, Ev.bi_len, bi_abs, bi_int, bi_intb, bi_tuple, bi_list, bi_all, bi_any, bi_min2, bi_max2, bi_min1, bi_max1, bi_sum, bi_sorted, bi_isinst, recv_append, recv_extend, optI_nil, optI_one, Option.map_some, Option.bind_some, Bool.not_true, Bool.not_false, isNon_non, eqD_int, eqD_bl, decide_true, decide_false, if_true, if_false, Bool.false_eq_true, reduceIte, true_or, or_true, or_self, false_or, or_false, true_and, and_true, false_and, and_false, and_self, nats_len, rng_len, isC, OutS.turn_next, OutS.turn_ret, OutS.turn_cont, OutS.turn_brk, OutS.turn_exc, kt_NoneType_int, kt_NoneType_str, kt_NoneType_list, kt_NoneType_tuple, kt_NoneType_dict, kt_NoneType_bool, kt_bool_int, kt_bool_str, kt_bool_list, kt_bool_tuple, kt_bool_dict, kt_bool_bool, kt_int_int, kt_int_str, kt_int_list, kt_int_tuple, kt_int_dict, kt_int_bool, kt_str_int, kt_str_str, kt_str_list, kt_str_tuple, kt_str_dict, kt_str_bool, kt_list_int, kt_list_str, kt_list_list, kt_list_tuple, kt_list_dict, kt_list_bool, kt_tuple_int, kt_tuple_str, kt_tuple_list, kt_tuple_tuple, kt_tuple_dict, kt_tuple_bool, kt_dict_int, kt_dict_str, kt_dict_list, kt_dict_tuple, kt_dict_dict, kt_dict_bool, ty_non, ty_bl, ty_int, ty_str, ty_tup, ty_tk, ty_lst, ty_fz, isNon_bl, isNon_int, isNon_str, isNon_tupl, isNon_lstl, at0, at1, at2, at3, Int.reduceEq, Int.reduceLT, Int.reduceLE, Int.reduceSub, Int.reduceAdd, Int.reduceMul, List.length_cons, List.length_nil, List.length_append, Nat.zero_add, hr, Cell.d, toInts_zs]
    rfl
theorem eqR_nil {n : Nat} {xs : List D} (h : st[n]? = some (.lst xs)) (ok : okNs 59 xs = true) : eqD st (.ref n) (.lst []) = some xs.isEmpty := by
  rw [← eqD_nilL (st := st) ok]
  unfold eqD
  rw [view_ref, h]
  rfl
theorem okNs_ov {n : Nat} : ∀ l : List OV, okNs n (l.map OV.d) = true
  | [] => by simp [okNs]
  | x :: r => by
    rw [List.map_cons, okNs, okNs_ov r]
    cases x <;> simp [OV.d, okN]
end
theorem smin_le : ∀ (r : List Str) (x : Str), ∀ y ∈ x :: r, ltS y (EvSet.smin x r) = false
  | [], x, y, h => by
    rw [List.mem_singleton.mp h]
    exact ltS_irr x
  | z :: r, x, y, h => by
    have ih := smin_le r (if decide (z.cps.toList < x.cps.toList) = true then z else x)
    have e : EvSet.smin x (z :: r) = EvSet.smin (if decide (z.cps.toList < x.cps.toList) = true then z else x) r := rfl
    rw [e]
    have h0 := ih _ List.mem_cons_self
    have hz : ltS (if decide (z.cps.toList < x.cps.toList) = true then z else x) x = true ∨ (if decide (z.cps.toList < x.cps.toList) = true then z else x) = x := by
      split
      · rename_i q; exact .inl q
      · exact .inr rfl
    have hx : leS (if decide (z.cps.toList < x.cps.toList) = true then z else x) x ∧ leS (if decide (z.cps.toList < x.cps.toList) = true then z else x) z := by
      by_cases q : decide (z.cps.toList < x.cps.toList) = true
      · rw [if_pos q]
        exact ⟨ltS_asymm (show ltS z x = true from q), ltS_irr z⟩
      · rw [if_neg q]
        exact ⟨ltS_irr x, by show ltS z x = false; unfold ltS; simpa using q⟩
    rcases List.mem_cons.mp h with rfl | h
    · exact ltS_trans' (show ltS _ (EvSet.smin _ r) = false from h0) hx.1
    · rcases List.mem_cons.mp h with rfl | h
      · exact ltS_trans' (show ltS _ (EvSet.smin _ r) = false from h0) hx.2
      · exact ih y (List.mem_cons_of_mem _ h)
theorem le_smax : ∀ (r : List Str) (x : Str), ∀ y ∈ x :: r, ltS (EvSet.smax x r) y = false
  | [], x, y, h => by
    rw [List.mem_singleton.mp h]
    exact ltS_irr x
  | z :: r, x, y, h => by
    have ih := le_smax r (if decide (x.cps.toList < z.cps.toList) = true then z else x)
    have e : EvSet.smax x (z :: r) = EvSet.smax (if decide (x.cps.toList < z.cps.toList) = true then z else x) r := rfl
    rw [e]
    have h0 := ih _ List.mem_cons_self
    have hx : leS x (if decide (x.cps.toList < z.cps.toList) = true then z else x) ∧ leS z (if decide (x.cps.toList < z.cps.toList) = true then z else x) := by
      by_cases q : decide (x.cps.toList < z.cps.toList) = true
      · rw [if_pos q]
        exact ⟨ltS_asymm (show ltS x z = true from q), ltS_irr z⟩
      · rw [if_neg q]
        exact ⟨ltS_irr x, by show ltS x z = false; unfold ltS; simpa using q⟩
    rcases List.mem_cons.mp h with rfl | h
    · exact ltS_trans' hx.1 h0
    · rcases List.mem_cons.mp h with rfl | h
      · exact ltS_trans' hx.2 h0
      · exact ih y (List.mem_cons_of_mem _ h)
theorem iminM : ∀ (r : List Int) (x : Int), imin x r ∈ x :: r
  | [], x => by simp [imin]
  | y :: r, x => by
    rw [imin]
    have h := iminM r (if y < x then y else x)
    rcases List.mem_cons.mp h with e | h
    · rw [e]; split <;> simp
    · exact List.mem_cons_of_mem _ (List.mem_cons_of_mem _ h)
theorem imaxM : ∀ (r : List Int) (x : Int), imax x r ∈ x :: r
  | [], x => by simp [imax]
  | y :: r, x => by
    rw [imax]
    have h := imaxM r (if x < y then y else x)
    rcases List.mem_cons.mp h with e | h
    · rw [e]; split <;> simp
    · exact List.mem_cons_of_mem _ (List.mem_cons_of_mem _ h)
theorem sminM : ∀ (r : List Str) (x : Str), EvSet.smin x r ∈ x :: r
  | [], x => by simp [EvSet.smin]
  | z :: r, x => by
    have e : EvSet.smin x (z :: r) = EvSet.smin (if decide (z.cps.toList < x.cps.toList) = true then z else x) r := rfl
    rw [e]
    have h := sminM r (if decide (z.cps.toList < x.cps.toList) = true then z else x)
    rcases List.mem_cons.mp h with e | h
    · rw [e]; split <;> simp
    · exact List.mem_cons_of_mem _ (List.mem_cons_of_mem _ h)
theorem smaxM : ∀ (r : List Str) (x : Str), EvSet.smax x r ∈ x :: r
  | [], x => by simp [EvSet.smax]
  | z :: r, x => by
    have e : EvSet.smax x (z :: r) = EvSet.smax (if decide (x.cps.toList < z.cps.toList) = true then z else x) r := rfl
    rw [e]
    have h := smaxM r (if decide (x.cps.toList < z.cps.toList) = true then z else x)
    rcases List.mem_cons.mp h with e | h
    · rw [e]; split <;> simp
    · exact List.mem_cons_of_mem _ (List.mem_cons_of_mem _ h)
theorem min_O {ms : List OV} {b : Bool} (hk : ∀ m ∈ ms, m.k = b) (hne : ms ≠ []) : ∃ lo hi : OV, (∀ st d, view st d = .lst (ms.map OV.d) → biD st .min1 [d] = some lo.d ∧ biD st .max1 [d] = some hi.d) ∧ lo.k = b ∧ hi.k = b ∧ (∀ m ∈ ms, ltO m lo = false ∧ ltO hi m = false) ∧ lo ∈ ms ∧ hi ∈ ms := by
  cases b with
  | true =>
    obtain ⟨ns, rfl⟩ : ∃ ns : List Int, ms = ns.map OV.i := by
      clear hne
      induction ms with
      | nil => exact ⟨[], rfl⟩
      | cons m r ih =>
        obtain ⟨ns, rfl⟩ := ih fun x hx => hk x (by simp [hx])
        have := hk m (by simp)
        cases m with
        | i n => exact ⟨n :: ns, rfl⟩
        | s x => simp [OV.k] at this
    cases ns with
    | nil => exact absurd rfl hne
    | cons n ns =>
      have e : ((n :: ns).map OV.i).map OV.d = zs (n :: ns) := by rw [List.map_map]; rfl
      refine ⟨.i (imin n ns), .i (imax n ns), fun st d hd => ?_, rfl, rfl, fun m hm => ?_, List.mem_map_of_mem (iminM ns n), List.mem_map_of_mem (imaxM ns n)⟩
      · rw [e] at hd
        rw [bi_min1, bi_max1, hd]
        dsimp only
        rw [toInts_zs]
        exact ⟨rfl, rfl⟩
      · obtain ⟨y, hy, rfl⟩ := List.mem_map.mp hm
        have h1 := Ev.imin_le ns n y hy
        have h2 := Ev.imax_ge ns n y hy
        simp [ltO]
        omega
  | false =>
    obtain ⟨ss, rfl⟩ : ∃ ss : List Str, ms = ss.map OV.s := by
      clear hne
      induction ms with
      | nil => exact ⟨[], rfl⟩
      | cons m r ih =>
        obtain ⟨ss, rfl⟩ := ih fun x hx => hk x (by simp [hx])
        have := hk m (by simp)
        cases m with
        | i n => simp [OV.k] at this
        | s x => exact ⟨x :: ss, rfl⟩
    cases ss with
    | nil => exact absurd rfl hne
    | cons x ss =>
      have e : ((x :: ss).map OV.s).map OV.d = (x :: ss).map D.str := by rw [List.map_map]; rfl
      refine ⟨.s (EvSet.smin x ss), .s (EvSet.smax x ss), fun st d hd => ?_, rfl, rfl, fun m hm => ?_, List.mem_map_of_mem (sminM ss x), List.mem_map_of_mem (smaxM ss x)⟩
      · rw [e] at hd
        rw [bi_min1, bi_max1, hd]
        dsimp only
        rw [toStrs_strs]
        exact ⟨rfl, rfl⟩
      · obtain ⟨y, hy, rfl⟩ := List.mem_map.mp hm
        exact ⟨smin_le ss x y hy, le_smax ss x y hy⟩
/-! ### the least and the greatest of a column -/
theorem app_ov {st : Sto} {l : List OV} {o : OV} (hl : l.length < SZ) : bmD st.length .append (.ref st.length) [o.d] (st ++ [.lst (l.map OV.d)]) = .ok .non (st ++ [.lst ((l ++ [o]).map OV.d)]) := by
  have e : (st ++ [D.lst (l.map OV.d)])[st.length]? = some (.lst (l.map OV.d)) := by simp
  unfold bmD
  dsimp only
  rw [e]
  show (if (l.map OV.d).length < SZ ∧ wrOk _ _ _ = true then _ else _) = _
  rw [if_pos ⟨by simpa using hl, by unfold wrOk; simp⟩]
  simp
theorem ext_ov {st : Sto} {l : List OV} {ws : List Str} (hl : l.length + ws.length ≤ SZ) : bmD st.length .extend (.ref st.length) [.tup (ws.map D.str)] (st ++ [.lst (l.map OV.d)]) = .ok .non (st ++ [.lst ((l ++ ws.map OV.s).map OV.d)]) := by
  have e : (st ++ [D.lst (l.map OV.d)])[st.length]? = some (.lst (l.map OV.d)) := by simp
  unfold bmD
  dsimp only
  rw [e]
  show (if (l.map OV.d).length + (ws.map D.str).length ≤ SZ ∧ wrOk _ _ _ = true then _ else _) = _
  rw [if_pos ⟨by simpa using hl, by unfold wrOk; simp⟩]
  simp [Function.comp_def, OV.d]
theorem pair_loop {C : Nat → List D → Sto → Out D} {st : Sto} {r : Str} {x1 : Option D} (hC : ∀ (c : Cell) st', suits r c → r ≠ (S [108, 111, 116]) → C i_sum_of [.str r, c.d] st' = .ok (fig c).d st') : ∀ (cs : List Cell) (acc : List OV) (y : Option D), (∀ c ∈ cs, suits r c ∧ (mems c).length ≤ 1000) → acc.length + 1000 * cs.length ≤ 1000000 →
    ∃ y', forGo (fb G C st.length (.one 3) b_pair_of_l1) (cs.map Cell.d) [some (.str r), x1, some (.ref st.length), y] (st ++ [.lst (acc.map OV.d)]) = .next [some (.str r), x1, some (.ref st.length), y'] (st ++ [.lst ((acc ++ cs.flatMap mems).map OV.d)])
  | [], acc, y, _, _ => ⟨y, by simp [forGo]⟩
  | c :: cs, acc, y, h, hl => by
    have hz : SZ = 16777216 := rfl
    rw [List.length_cons] at hl
    obtain ⟨hc, hm⟩ := h c (by simp)
    obtain ⟨y', e⟩ := pair_loop (st := st) (x1 := x1) hC cs (acc ++ mems c) (some c.d) (fun z hz => h z (by simp [hz])) (by rw [List.length_append]; omega)
    refine ⟨y', ?_⟩
    rw [List.map_cons, forGo, fb_one]
    simp only [List.set_cons_succ, List.set_cons_zero]
    have q : evSs G C st.length b_pair_of_l1 [some (.str r), x1, some (.ref st.length), some c.d] (st ++ [.lst (acc.map OV.d)]) = .next [some (.str r), x1, some (.ref st.length), some c.d] (st ++ [.lst ((acc ++ mems c).map OV.d)]) := by
      unfold b_pair_of_l1
      by_cases hr : r = (S [108, 111, 116])
      · subst hr
        cases c with
        | lot ws =>
          have hw : ws.length ≤ 1000 := by simpa [mems] using hm
          have e2 := ext_ov (st := st) (l := acc) (ws := ws) (by omega)
          simp only [ss_cons, ss_nil, s_set, s_sets, s_put, s_expr, s_ret, s_retN, s_if, s_for1, s_for2, s_for3, s_for4, s_for5, s_brk, s_cont, s_raise, fb_one, fb_many, fb_manyK, lb_one, lb_many, e_non, e_bool, e_int, e_str, e_var, e_gf, e_tyE, e_bin, e_neg, e_nt, e_and, e_or, e_cmp, e_chain, e_isN, e_notN, e_isB, e_notB, e_call, e_bi, e_listR1, e_listR2, e_idx, e_slc, e_tupE, e_lstE, e_box, e_bm, es_nil, es_cons, et_nil, et_cons, ea_one, ea_cons, eo_one, eo_cons, ei_rng1, ei_rng2, ei_seq, ei_rev, e_lc1, e_lc2, e_lc3, e_lc4, e_lc5, e_bits, e_sset, ei_rng3, recv_index, idx_str, bi_ord, bi_str, bin_mulS, bin_addS, cmp_ltS, cmp_leS, cmp_gtS, cmp_geS, eqD_str, setSlots_nil, setSlots_cons, asg_many, asg_manyK, slc_lst, slc_tup, wipeD, Out.bind_ok, Out.bind_exc, Out.noX_ok, Out.thenS_ok, Out.thenS_exc, OutS.seq_next, OutS.seq_ret, OutS.seq_exc, OutS.seq_brk, OutS.seq_cont, lift_some, List.set_cons_succ, List.set_cons_zero, List.getElem?_cons_succ, List.getElem?_cons_zero, bin_add, bin_sub, bin_mul, bin_mod, bin_fdiv, bin_pow, bin_addL, bin_addT, bin_mulL, bin_mulT, cmp_eq, cmp_ne, cmp_mem, cmp_nmem, cmp_lt, cmp_le, cmp_gt, cmp_ge, view_int, view_bl, view_lst, view_tup, view_fz, view_tk, view_str, view_dk, view_non, idx_lst, idx_tup, idx_fz, idx_tk, Ev.bi_len, bi_abs, bi_int, bi_intb, bi_tuple, bi_list, bi_all, bi_any, bi_min2, bi_max2, bi_min1, bi_max1, bi_sum, bi_sorted, bi_isinst, recv_append, recv_extend, optI_nil, optI_one, Option.map_some, Option.bind_some, Bool.not_true, Bool.not_false, isNon_non, eqD_int, eqD_bl, decide_true, decide_false, if_true, if_false, Bool.false_eq_true, reduceIte, true_or, or_true, or_self, false_or, or_false, true_and, and_true, false_and, and_false, and_self, nats_len, rng_len, isC, OutS.turn_next, OutS.turn_ret, OutS.turn_cont, OutS.turn_brk, OutS.turn_exc, kt_NoneType_int, kt_NoneType_str, kt_NoneType_list, kt_NoneType_tuple, kt_NoneType_dict, kt_NoneType_bool, kt_bool_int, kt_bool_str, kt_bool_list, kt_bool_tuple, kt_bool_dict, kt_bool_bool, kt_int_int, kt_int_str, kt_int_list, kt_int_tuple, kt_int_dict, kt_int_bool, kt_str_int, kt_str_str, kt_str_list, kt_str_tuple, kt_str_dict, kt_str_bool, kt_list_int, kt_list_str, kt_list_list, kt_list_tuple, kt_list_dict, kt_list_bool, kt_tuple_int, kt_tuple_str, kt_tuple_list, kt_tuple_tuple, kt_tuple_dict, kt_tuple_bool, kt_dict_int, kt_dict_str, kt_dict_list, kt_dict_tuple, kt_dict_dict, kt_dict_bool, ty_non, ty_bl, ty_int, ty_str, ty_tup, ty_tk, ty_lst, ty_fz, isNon_bl, isNon_int, isNon_str, isNon_tupl, isNon_lstl, at0, at1, at2, at3, Int.reduceEq, Int.reduceLT, Int.reduceLE, Int.reduceSub, Int.reduceAdd, Int.reduceMul, List.length_cons, List.length_nil, List.length_append, Nat.zero_add, Cell.d, mems, view_ref, get_last, Option.getD_some, e2]
        | v o =>
          cases o with
          | i n => rcases hc with h | h | h <;> exact absurd h (by decide)
          | s x => exact absurd hc (show (S [108, 111, 116]) ≠ (S [119, 111, 114, 100]) by decide)
        | sh ns => exact absurd hc (show (S [108, 111, 116]) ≠ (S [115, 104, 97, 114, 101]) by decide)
      · have hmm : mems c = [fig c] := by
          cases c with
          | lot ws => exact absurd hc hr
          | _ => rfl
        rw [hmm]
        have e2 := app_ov (st := st) (l := acc) (o := fig c) (by omega)
        simp only [ss_cons, ss_nil, s_set, s_sets, s_put, s_expr, s_ret, s_retN, s_if, s_for1, s_for2, s_for3, s_for4, s_for5, s_brk, s_cont, s_raise, fb_one, fb_many, fb_manyK, lb_one, lb_many, e_non, e_bool, e_int, e_str, e_var, e_gf, e_tyE, e_bin, e_neg, e_nt, e_and, e_or, e_cmp, e_chain, e_isN, e_notN, e_isB, e_notB, e_call, e_bi, e_listR1, e_listR2, e_idx, e_slc, e_tupE, e_lstE, e_box, e_bm, es_nil, es_cons, et_nil, et_cons, ea_one, ea_cons, eo_one, eo_cons, ei_rng1, ei_rng2, ei_seq, ei_rev, e_lc1, e_lc2, e_lc3, e_lc4, e_lc5, e_bits, e_sset, ei_rng3, recv_index, idx_str, bi_ord, bi_str, bin_mulS, bin_addS, cmp_ltS, cmp_leS, cmp_gtS, cmp_geS, eqD_str, setSlots_nil, setSlots_cons, asg_many, asg_manyK, slc_lst, slc_tup, wipeD, Out.bind_ok, Out.bind_exc, Out.noX_ok, Out.thenS_ok, Out.thenS_exc, OutS.seq_next, OutS.seq_ret, OutS.seq_exc, OutS.seq_brk, OutS.seq_cont, lift_some, List.set_cons_succ, List.set_cons_zero, List.getElem?_cons_succ, List.getElem?_cons_zero, bin_add, bin_sub, bin_mul, bin_mod, bin_fdiv, bin_pow, bin_addL, bin_addT, bin_mulL, bin_mulT, cmp_eq, cmp_ne, cmp_mem, cmp_nmem, cmp_lt, cmp_le, cmp_gt, cmp_ge, view_int, view_bl, view_lst, view_tup, view_fz, view_tk, view_str, view_dk, view_non, idx_lst, idx_tup, idx_fz, idx_tk, Ev.bi_len, bi_abs, bi_int, bi_intb, bi_tuple, bi_list, bi_all, bi_any, bi_min2, bi_max2, bi_min1, bi_max1, bi_sum, bi_sorted, bi_isinst, recv_append, recv_extend, optI_nil, optI_one, Option.map_some, Option.bind_some, Bool.not_true, Bool.not_false, isNon_non, eqD_int, eqD_bl, decide_true, decide_false, if_true, if_false, Bool.false_eq_true, reduceIte, true_or, or_true, or_self, false_or, or_false, true_and, and_true, false_and, and_false, and_self, nats_len, rng_len, isC, OutS.turn_next, OutS.turn_ret, OutS.turn_cont, OutS.turn_brk, OutS.turn_exc, kt_NoneType_int, kt_NoneType_str, kt_NoneType_list, kt_NoneType_tuple, kt_NoneType_dict, kt_NoneType_bool, kt_bool_int, kt_bool_str, kt_bool_list, kt_bool_tuple, kt_bool_dict, kt_bool_bool, kt_int_int, kt_int_str, kt_int_list, kt_int_tuple, kt_int_dict, kt_int_bool, kt_str_int, kt_str_str, kt_str_list, kt_str_tuple, kt_str_dict, kt_str_bool, kt_list_int, kt_list_str, kt_list_list, kt_list_tuple, kt_list_dict, kt_list_bool, kt_tuple_int, kt_tuple_str, kt_tuple_list, kt_tuple_tuple, kt_tuple_dict, kt_tuple_bool, kt_dict_int, kt_dict_str, kt_dict_list, kt_dict_tuple, kt_dict_dict, kt_dict_bool, ty_non, ty_bl, ty_int, ty_str, ty_tup, ty_tk, ty_lst, ty_fz, isNon_bl, isNon_int, isNon_str, isNon_tupl, isNon_lstl, at0, at1, at2, at3, Int.reduceEq, Int.reduceLT, Int.reduceLE, Int.reduceSub, Int.reduceAdd, Int.reduceMul, List.length_cons, List.length_nil, List.length_append, Nat.zero_add, eq_false hr, view_ref, get_last, Option.getD_some, hC c _ hc hr, e2]
    rw [q, OutS.turn_next, e, List.flatMap_cons, List.append_assoc]
def pairD : Option (OV × OV) → D
  | none => .non
  | some (a, b) => .tup [a.d, b.d]
/-- what a pair tells of the members of a column -/
def pairOk (r : Str) (p : Option (OV × OV)) (ms : List OV) : Prop := match p with
  | none => ms = []
  | some (lo, hi) => lo.k = rk r ∧ hi.k = rk r ∧ (∀ m ∈ ms, ltO m lo = false ∧ ltO hi m = false) ∧ lo ∈ ms ∧ hi ∈ ms
theorem pair_unique {r : Str} {p q : Option (OV × OV)} {ms : List OV} (h1 : pairOk r p ms) (h2 : pairOk r q ms) : p = q := by
  cases p with
  | none =>
    cases q with
    | none => rfl
    | some lh =>
      obtain ⟨_, _, _, h, _⟩ := h2
      rw [show ms = [] from h1] at h
      cases h
  | some lh =>
    cases q with
    | none =>
      obtain ⟨_, _, _, h, _⟩ := h1
      rw [show ms = [] from h2] at h
      cases h
    | some lh2 =>
      obtain ⟨lo, hi⟩ := lh
      obtain ⟨lo2, hi2⟩ := lh2
      obtain ⟨a1, a2, a3, a4, a5⟩ := h1
      obtain ⟨b1, b2, b3, b4, b5⟩ := h2
      have e1 : lo = lo2 := leO_anti (a1.trans b1.symm) (a3 _ b4).1 (b3 _ a4).1
      have e2 : hi = hi2 := leO_anti (a2.trans b2.symm) (b3 _ a5).2 (a3 _ b5).2
      rw [e1, e2]
theorem flat_len : ∀ (cs : List Cell), (∀ c ∈ cs, (mems c).length ≤ 1000) → (cs.flatMap mems).length ≤ 1000 * cs.length
  | [], _ => by simp
  | c :: cs, h => by
    have h1 := flat_len cs fun x hx => h x (by simp [hx])
    have h2 := h c (by simp)
    rw [List.flatMap_cons, List.length_append, List.length_cons]
    omega
theorem r_pair_of {k fl : Nat} {st : Sto} {r : Str} {cs : List Cell} (h : ∀ c ∈ cs, suits r c ∧ (mems c).length ≤ 1000) (hl : cs.length ≤ 900) :
    ∃ p, run G (k + 2) fl i_pair_of [.str r, .lst (cs.map Cell.d)] st = .ok (pairD p) st ∧ pairOk r p (cs.flatMap mems) := by
  obtain ⟨y', e⟩ := pair_loop (C := run G (k + 1) st.length) (st := st) (x1 := some (.lst (cs.map Cell.d))) (fun c st' h1 h2 => r_sum_of (k := k) h1 h2) cs [] none h (by simp; omega)
  rw [List.nil_append] at e
  have hk : ∀ m ∈ cs.flatMap mems, m.k = rk r := fun m hm => by
    obtain ⟨c, hc, hm⟩ := List.mem_flatMap.mp hm
    exact mems_k (h c hc).1 m hm
  have hemp := eqR_nil (st := st ++ [.lst ((cs.flatMap mems).map OV.d)]) (n := st.length) get_last (okNs_ov _)
  by_cases h0 : cs.flatMap mems = []
  · refine ⟨none, ?_, h0⟩
    rw [h0] at e hemp
    refine run_pop (F := f_pair_of) (st' := [.lst []]) (d := .non) rfl rfl rfl ?_ rfl
    show evSs G (run G (k + 1) st.length) _ b_pair_of [some (.str r), some (.lst (cs.map Cell.d)), none, none] st = _
    unfold b_pair_of
    rw [List.map_nil] at e hemp
    simp only [ss_cons, ss_nil, s_set, s_sets, s_put, s_expr, s_ret, s_retN, s_if, s_for1, s_for2, s_for3, s_for4, s_for5, s_brk, s_cont, s_raise, fb_one, fb_many, fb_manyK, lb_one, lb_many, e_non, e_bool, e_int, e_str, e_var, e_gf, e_tyE, e_bin, e_neg, e_nt, e_and, e_or, e_cmp, e_chain, e_isN, e_notN, e_isB, e_notB, e_call, e_bi, e_listR1, e_listR2, e_idx, e_slc, e_tupE, e_lstE, e_box, e_bm, es_nil, es_cons, et_nil, et_cons, ea_one, ea_cons, eo_one, eo_cons, ei_rng1, ei_rng2, ei_seq, ei_rev, e_lc1, e_lc2, e_lc3, e_lc4, e_lc5, e_bits, e_sset, ei_rng3, recv_index, idx_str, bi_ord, bi_str, bin_mulS, bin_addS, cmp_ltS, cmp_leS, cmp_gtS, cmp_geS, eqD_str, setSlots_nil, setSlots_cons, asg_many, asg_manyK, slc_lst, slc_tup, wipeD, Out.bind_ok, Out.bind_exc, Out.noX_ok, Out.thenS_ok, Out.thenS_exc, OutS.seq_next, OutS.seq_ret, OutS.seq_exc, OutS.seq_brk, OutS.seq_cont, lift_some, List.set_cons_succ, List.set_cons_zero, List.getElem?_cons_succ, List.getElem?_cons_zero, bin_add, bin_sub, bin_mul, bin_mod, bin_fdiv, bin_pow, bin_addL, bin_addT, bin_mulL, bin_mulT, cmp_eq, cmp_ne, cmp_mem, cmp_nmem, cmp_lt, cmp_le, cmp_gt, cmp_ge, view_int, view_bl, view_lst, view_tup, view_fz, view_tk, view_str, view_dk, view_non, idx_lst, idx_tup, idx_fz, idx_tk, Ev.bi_len, bi_abs, bi_int, bi_intb, bi_tuple, bi_list, bi_all, bi_any, bi_min2, bi_max2, bi_min1, bi_max1, bi_sum, bi_sorted, bi_isinst, recv_append, recv_extend, optI_nil, optI_one, Option.map_some, Option.bind_some, Bool.not_true, Bool.not_false, isNon_non, eqD_int, eqD_bl, decide_true, decide_false, if_true, if_false, Bool.false_eq_true, reduceIte, true_or, or_true, or_self, false_or, or_false, true_and, and_true, false_and, and_false, and_self, nats_len, rng_len, isC, OutS.turn_next, OutS.turn_ret, OutS.turn_cont, OutS.turn_brk, OutS.turn_exc, kt_NoneType_int, kt_NoneType_str, kt_NoneType_list, kt_NoneType_tuple, kt_NoneType_dict, kt_NoneType_bool, kt_bool_int, kt_bool_str, kt_bool_list, kt_bool_tuple, kt_bool_dict, kt_bool_bool, kt_int_int, kt_int_str, kt_int_list, kt_int_tuple, kt_int_dict, kt_int_bool, kt_str_int, kt_str_str, kt_str_list, kt_str_tuple, kt_str_dict, kt_str_bool, kt_list_int, kt_list_str, kt_list_list, kt_list_tuple, kt_list_dict, kt_list_bool, kt_tuple_int, kt_tuple_str, kt_tuple_list, kt_tuple_tuple, kt_tuple_dict, kt_tuple_bool, kt_dict_int, kt_dict_str, kt_dict_list, kt_dict_tuple, kt_dict_dict, kt_dict_bool, ty_non, ty_bl, ty_int, ty_str, ty_tup, ty_tk, ty_lst, ty_fz, isNon_bl, isNon_int, isNon_str, isNon_tupl, isNon_lstl, at0, at1, at2, at3, Int.reduceEq, Int.reduceLT, Int.reduceLE, Int.reduceSub, Int.reduceAdd, Int.reduceMul, List.length_cons, List.length_nil, List.length_append, Nat.zero_add, e, hemp, List.isEmpty_nil]
  · obtain ⟨lo, hi, m1, m2, m3, m4⟩ := min_O hk h0
    refine ⟨some (lo, hi), ?_, m2, m3, m4⟩
    have hne : ((cs.flatMap mems).map OV.d).isEmpty = false := by
      cases hq : cs.flatMap mems with
      | nil => exact absurd hq h0
      | cons a b => rfl
    obtain ⟨q1, q2⟩ := m1 (st ++ [.lst ((cs.flatMap mems).map OV.d)]) (.ref st.length) (by rw [view_ref, get_last]; rfl)
    refine run_pop (F := f_pair_of) (st' := [.lst ((cs.flatMap mems).map OV.d)]) (d := .tup [lo.d, hi.d]) rfl rfl rfl ?_ (by
      unfold unbox
      dsimp only
      rw [if_pos]
      · rfl
      · show (D.lo 0 lo.d && (D.lo 0 hi.d && true)) = true
        rw [OV.lo, OV.lo]; rfl)
    show evSs G (run G (k + 1) st.length) _ b_pair_of [some (.str r), some (.lst (cs.map Cell.d)), none, none] st = _
    unfold b_pair_of
    rw [List.map_nil] at e
    simp only [ss_cons, ss_nil, s_set, s_sets, s_put, s_expr, s_ret, s_retN, s_if, s_for1, s_for2, s_for3, s_for4, s_for5, s_brk, s_cont, s_raise, fb_one, fb_many, fb_manyK, lb_one, lb_many, e_non, e_bool, e_int, e_str, e_var, e_gf, e_tyE, e_bin, e_neg, e_nt, e_and, e_or, e_cmp, e_chain, e_isN, e_notN, e_isB, e_notB, e_call, e_bi, e_listR1, e_listR2, e_idx, e_slc, e_tupE, e_lstE, e_box, e_bm, es_nil, es_cons, et_nil, et_cons, ea_one, ea_cons, eo_one, eo_cons, ei_rng1, ei_rng2, ei_seq, ei_rev, e_lc1, e_lc2, e_lc3, e_lc4, e_lc5, e_bits, e_sset, ei_rng3, recv_index, idx_str, bi_ord, bi_str, bin_mulS, bin_addS, cmp_ltS, cmp_leS, cmp_gtS, cmp_geS, eqD_str, setSlots_nil, setSlots_cons, asg_many, asg_manyK, slc_lst, slc_tup, wipeD, Out.bind_ok, Out.bind_exc, Out.noX_ok, Out.thenS_ok, Out.thenS_exc, OutS.seq_next, OutS.seq_ret, OutS.seq_exc, OutS.seq_brk, OutS.seq_cont, lift_some, List.set_cons_succ, List.set_cons_zero, List.getElem?_cons_succ, List.getElem?_cons_zero, bin_add, bin_sub, bin_mul, bin_mod, bin_fdiv, bin_pow, bin_addL, bin_addT, bin_mulL, bin_mulT, cmp_eq, cmp_ne, cmp_mem, cmp_nmem, cmp_lt, cmp_le, cmp_gt, cmp_ge, view_int, view_bl, view_lst, view_tup, view_fz, view_tk, view_str, view_dk, view_non, idx_lst, idx_tup, idx_fz, idx_tk, Ev.bi_len, bi_abs, bi_int, bi_intb, bi_tuple, bi_list, bi_all, bi_any, bi_min2, bi_max2, bi_sum, bi_sorted, bi_isinst, recv_append, recv_extend, optI_nil, optI_one, Option.map_some, Option.bind_some, Bool.not_true, Bool.not_false, isNon_non, eqD_int, eqD_bl, decide_true, decide_false, if_true, if_false, Bool.false_eq_true, reduceIte, true_or, or_true, or_self, false_or, or_false, true_and, and_true, false_and, and_false, and_self, nats_len, rng_len, isC, OutS.turn_next, OutS.turn_ret, OutS.turn_cont, OutS.turn_brk, OutS.turn_exc, kt_NoneType_int, kt_NoneType_str, kt_NoneType_list, kt_NoneType_tuple, kt_NoneType_dict, kt_NoneType_bool, kt_bool_int, kt_bool_str, kt_bool_list, kt_bool_tuple, kt_bool_dict, kt_bool_bool, kt_int_int, kt_int_str, kt_int_list, kt_int_tuple, kt_int_dict, kt_int_bool, kt_str_int, kt_str_str, kt_str_list, kt_str_tuple, kt_str_dict, kt_str_bool, kt_list_int, kt_list_str, kt_list_list, kt_list_tuple, kt_list_dict, kt_list_bool, kt_tuple_int, kt_tuple_str, kt_tuple_list, kt_tuple_tuple, kt_tuple_dict, kt_tuple_bool, kt_dict_int, kt_dict_str, kt_dict_list, kt_dict_tuple, kt_dict_dict, kt_dict_bool, ty_non, ty_bl, ty_int, ty_str, ty_tup, ty_tk, ty_lst, ty_fz, isNon_bl, isNon_int, isNon_str, isNon_tupl, isNon_lstl, at0, at1, at2, at3, Int.reduceEq, Int.reduceLT, Int.reduceLE, Int.reduceSub, Int.reduceAdd, Int.reduceMul, List.length_cons, List.length_nil, List.length_append, Nat.zero_add, e, hemp, hne, q1, q2]
/-! ### rows and their statistics -/
structure Row where
  key : OV
  cells : List Cell
def Row.d (r : Row) : D := .tup [r.key.d, .tup (r.cells.map Cell.d)]
def kk (t : Tb) : Bool := !decide (t.kind = (S [119, 111, 114, 100]))
/-- a row of a table -/
def RowOk (t : Tb) (r : Row) : Prop := r.key.k = kk t ∧ r.cells.length = t.cols.length ∧ ∀ (i : Nat) (c : Cell) (q : Str × Str), r.cells[i]? = some c → t.cols[i]? = some q → suits q.2 c ∧ (mems c).length ≤ 1000
def colOf (rows : List Row) (i : Nat) : List Cell := rows.map fun r => r.cells.getD i (.lot [])
theorem colOf_ok {t : Tb} {rows : List Row} (h : ∀ r ∈ rows, RowOk t r) {i : Nat} {q : Str × Str} (hq : t.cols[i]? = some q) : ∀ c ∈ colOf rows i, suits q.2 c ∧ (mems c).length ≤ 1000 := fun c hc => by
  obtain ⟨r, hr, rfl⟩ := List.mem_map.mp hc
  obtain ⟨h1, h2, h3⟩ := h r hr
  have hi := (List.getElem?_eq_some_iff.mp hq).1
  have e : r.cells[i]? = some (r.cells.getD i (.lot [])) := by
    rw [List.getD_eq_getElem?_getD, List.getElem?_eq_getElem (by omega)]; rfl
  exact h3 i _ q e hq
theorem atI_at {xs : List D} {i : Nat} {d : D} (h : xs[i]? = some d) : atI xs (i : Int) = some d := by rw [atI_of (by omega), Int.toNat_natCast]; exact h
theorem r_statistics {k fl : Nat} {st : Sto} {t : Tb} {rows : List Row} (ht : TbOk t) (h : ∀ r ∈ rows, RowOk t r) (hl : rows.length ≤ 900) {r0 r1 : Row} (h0 : rows[0]? = some r0) (h1 : rows[rows.length - 1]? = some r1) :
    ∃ ps : List (Option (OV × OV)), run G (k + 3) fl i_statistics [tbD t, .tup (rows.map Row.d)] st = .ok (.tup [.int (rows.length : Nat), r0.key.d, r1.key.d, .tup (ps.map pairD)]) st ∧ ps.length = t.cols.length ∧
      ∀ (i : Nat) (p : Option (OV × OV)) (q : Str × Str), ps[i]? = some p → t.cols[i]? = some q → pairOk q.2 p ((colOf rows i).flatMap mems) := by
  have hz : SZ = 16777216 := rfl
  have hfew := ht.few
  have sm : small62 (t.cols.length : Int) = true := small62_n (by omega)
  have lm : ((t.cols.length : Int) - 0).toNat ≤ SZ := by omega
  have key := forGo_inv (b := fb G (run G (k + 2) st.length) st.length (.one 3) b_statistics_l1) (xs := rng 0 (t.cols.length : Int)) (fun i ρ st' => ∃ y ps, ρ = [some (tbD t), some (.tup (rows.map Row.d)), some (.ref st.length), y, none, none] ∧ st' = st ++ [.lst (ps.map pairD)] ∧ ps.length = i ∧
      ∀ (j : Nat) (p : Option (OV × OV)) (q : Str × Str), ps[j]? = some p → t.cols[j]? = some q → pairOk q.2 p ((colOf rows j).flatMap mems))
    (ρ := [some (tbD t), some (.tup (rows.map Row.d)), some (.ref st.length), none, none, none]) (st := st ++ [.lst []]) ⟨none, [], rfl, rfl, rfl, by simp⟩ (by
      intro i x hx ρ st' ⟨y, ps, e1, e2, e3, e4⟩
      obtain ⟨hi, rfl⟩ := rng_get hx
      subst e1 e2
      have hi2 : i < t.cols.length := by omega
      obtain ⟨q, hq⟩ : ∃ q, t.cols[i]? = some q := ⟨_, List.getElem?_eq_getElem hi2⟩
      have hcol := colOf_ok h hq
      obtain ⟨p, hp1, hp2⟩ := r_pair_of (k := k) (fl := st.length) (st := st ++ [.lst (ps.map pairD)]) hcol (by simp [colOf]; omega)
      rw [Int.zero_add]
      have a1 : atI (t.cols.map colD) (i : Int) = some (.tup [.str q.1, .str q.2]) := atI_at (by rw [List.getElem?_map, hq]; rfl)
      have lc : lcGo (lb G (run G (k + 2) st.length) st.length [some (tbD t), some (.tup (rows.map Row.d)), some (.ref st.length), some (.int (i : Int)), none, none] [4, 5] (.many [4, 5]) .nil b_statistics_c1) (rows.map Row.d) (st ++ [.lst (ps.map pairD)]) = .ok ((colOf rows i).map Cell.d) (st ++ [.lst (ps.map pairD)]) := by
        have hmap : (colOf rows i).map Cell.d = (rows.map Row.d).filterMap fun d => match d with | .tup [_, .tup cs] => cs[i]? | _ => none := by
          unfold colOf
          rw [List.map_map, List.filterMap_map]
          have : ∀ r ∈ rows, (Cell.d ∘ fun r : Row => r.cells.getD i (.lot [])) r = (r.cells.map Cell.d).getD i .non := fun r hr => by
            have hlen := (h r hr).2.1
            simp [List.getD_eq_getElem?_getD, List.getElem?_eq_getElem (show i < r.cells.length by omega)]
          have h2 : ∀ r ∈ rows, ((fun d => match d with | .tup [_, .tup cs] => cs[i]? | _ => none) ∘ Row.d) r = some ((r.cells.map Cell.d).getD i .non) := fun r hr => by
            have hlen := (h r hr).2.1
            show (r.cells.map Cell.d)[i]? = _
            simp [List.getD_eq_getElem?_getD, List.getElem?_eq_getElem (show i < r.cells.length by omega)]
          clear hcol hp1 hp2 h0 h1 hl e4
          induction rows with
          | nil => rfl
          | cons r rs ih =>
            rw [List.map_cons, List.filterMap_cons, h2 r (by simp), this r (by simp)]
            dsimp only
            rw [ih (fun x hx => h x (by simp [hx])) (fun x hx => this x (by simp [hx])) (fun x hx => h2 x (by simp [hx]))]
        rw [hmap, lcGo_pure]
        intro x hx
        obtain ⟨r, hr, rfl⟩ := List.mem_map.mp hx
        have hlen := (h r hr).2.1
        have a2 : atI (r.cells.map Cell.d) (i : Int) = (r.cells.map Cell.d)[i]? := by rw [atI_of (by omega), Int.toNat_natCast]
        have a3 : (r.cells.map Cell.d)[i]? = some (r.cells[i]'(by omega)).d := by rw [List.getElem?_map, List.getElem?_eq_getElem (by omega)]; rfl
        unfold b_statistics_c1 Row.d
        simp only [ss_cons, ss_nil, s_set, s_sets, s_put, s_expr, s_ret, s_retN, s_if, s_for1, s_for2, s_for3, s_for4, s_for5, s_brk, s_cont, s_raise, fb_one, fb_many, fb_manyK, lb_one, lb_many, e_non, e_bool, e_int, e_str, e_var, e_gf, e_tyE, e_bin, e_neg, e_nt, e_and, e_or, e_cmp, e_chain, e_isN, e_notN, e_isB, e_notB, e_call, e_bi, e_listR1, e_listR2, e_idx, e_slc, e_tupE, e_lstE, e_box, e_bm, es_nil, es_cons, et_nil, et_cons, ea_one, ea_cons, eo_one, eo_cons, ei_rng1, ei_rng2, ei_seq, ei_rev, e_lc1, e_lc2, e_lc3, e_lc4, e_lc5, e_bits, e_sset, ei_rng3, recv_index, idx_str, bi_ord, bi_str, bin_mulS, bin_addS, cmp_ltS, cmp_leS, cmp_gtS, cmp_geS, eqD_str, setSlots_nil, setSlots_cons, asg_many, asg_manyK, slc_lst, slc_tup, wipeD, Out.bind_ok, Out.bind_exc, Out.noX_ok, Out.thenS_ok, Out.thenS_exc, OutS.seq_next, OutS.seq_ret, OutS.seq_exc, OutS.seq_brk, OutS.seq_cont, lift_some, List.set_cons_succ, List.set_cons_zero, List.getElem?_cons_succ, List.getElem?_cons_zero, bin_add, bin_sub, bin_mul, bin_mod, bin_fdiv, bin_pow, bin_addL, bin_addT, bin_mulL, bin_mulT, cmp_eq, cmp_ne, cmp_mem, cmp_nmem, cmp_lt, cmp_le, cmp_gt, cmp_ge, view_int, view_bl, view_lst, view_tup, view_fz, view_tk, view_str, view_dk, view_non, idx_lst, idx_tup, idx_fz, idx_tk, Ev.bi_len, bi_abs, bi_int, bi_intb, bi_tuple, bi_list, bi_all, bi_any, bi_min2, bi_max2, bi_min1, bi_max1, bi_sum, bi_sorted, bi_isinst, recv_append, recv_extend, optI_nil, optI_one, Option.map_some, Option.bind_some, Bool.not_true, Bool.not_false, isNon_non, eqD_int, eqD_bl, decide_true, decide_false, if_true, if_false, Bool.false_eq_true, reduceIte, true_or, or_true, or_self, false_or, or_false, true_and, and_true, false_and, and_false, and_self, nats_len, rng_len, isC, OutS.turn_next, OutS.turn_ret, OutS.turn_cont, OutS.turn_brk, OutS.turn_exc, kt_NoneType_int, kt_NoneType_str, kt_NoneType_list, kt_NoneType_tuple, kt_NoneType_dict, kt_NoneType_bool, kt_bool_int, kt_bool_str, kt_bool_list, kt_bool_tuple, kt_bool_dict, kt_bool_bool, kt_int_int, kt_int_str, kt_int_list, kt_int_tuple, kt_int_dict, kt_int_bool, kt_str_int, kt_str_str, kt_str_list, kt_str_tuple, kt_str_dict, kt_str_bool, kt_list_int, kt_list_str, kt_list_list, kt_list_tuple, kt_list_dict, kt_list_bool, kt_tuple_int, kt_tuple_str, kt_tuple_list, kt_tuple_tuple, kt_tuple_dict, kt_tuple_bool, kt_dict_int, kt_dict_str, kt_dict_list, kt_dict_tuple, kt_dict_dict, kt_dict_bool, ty_non, ty_bl, ty_int, ty_str, ty_tup, ty_tk, ty_lst, ty_fz, isNon_bl, isNon_int, isNon_str, isNon_tupl, isNon_lstl, at0, at1, at2, at3, Int.reduceEq, Int.reduceLT, Int.reduceLE, Int.reduceSub, Int.reduceAdd, Int.reduceMul, List.length_cons, List.length_nil, List.length_append, Nat.zero_add, a2, a3]
      refine ⟨_, _, .inl ?_, some (.int (i : Int)), ps ++ [p], rfl, rfl, by simp [e3], fun j p' q' h1 h2 => ?_⟩
      · rw [fb_one]
        have hap : bmD st.length .append (.ref st.length) [pairD p] (st ++ [.lst (ps.map pairD)]) = .ok .non (st ++ [.lst ((ps ++ [p]).map pairD)]) := by
          have e : (st ++ [D.lst (ps.map pairD)])[st.length]? = some (.lst (ps.map pairD)) := by simp
          unfold bmD
          dsimp only
          rw [e]
          show (if (ps.map pairD).length < SZ ∧ wrOk _ _ _ = true then _ else _) = _
          rw [if_pos ⟨by simp; omega, by unfold wrOk; simp⟩]
          simp
        unfold b_statistics_l1 tbD colsD
        unfold tbD colsD at lc
        simp only [ss_cons, ss_nil, s_set, s_sets, s_put, s_expr, s_ret, s_retN, s_if, s_for1, s_for2, s_for3, s_for4, s_for5, s_brk, s_cont, s_raise, fb_one, fb_many, fb_manyK, lb_one, lb_many, e_non, e_bool, e_int, e_str, e_var, e_gf, e_tyE, e_bin, e_neg, e_nt, e_and, e_or, e_cmp, e_chain, e_isN, e_notN, e_isB, e_notB, e_call, e_bi, e_listR1, e_listR2, e_idx, e_slc, e_tupE, e_lstE, e_box, e_bm, es_nil, es_cons, et_nil, et_cons, ea_one, ea_cons, eo_one, eo_cons, ei_rng1, ei_rng2, ei_seq, ei_rev, e_lc1, e_lc2, e_lc3, e_lc4, e_lc5, e_bits, e_sset, ei_rng3, recv_index, idx_str, bi_ord, bi_str, bin_mulS, bin_addS, cmp_ltS, cmp_leS, cmp_gtS, cmp_geS, eqD_str, setSlots_nil, setSlots_cons, asg_many, asg_manyK, slc_lst, slc_tup, wipeD, Out.bind_ok, Out.bind_exc, Out.noX_ok, Out.thenS_ok, Out.thenS_exc, OutS.seq_next, OutS.seq_ret, OutS.seq_exc, OutS.seq_brk, OutS.seq_cont, lift_some, List.set_cons_succ, List.set_cons_zero, List.getElem?_cons_succ, List.getElem?_cons_zero, bin_add, bin_sub, bin_mul, bin_mod, bin_fdiv, bin_pow, bin_addL, bin_addT, bin_mulL, bin_mulT, cmp_eq, cmp_ne, cmp_mem, cmp_nmem, cmp_lt, cmp_le, cmp_gt, cmp_ge, view_int, view_bl, view_lst, view_tup, view_fz, view_tk, view_str, view_dk, view_non, idx_lst, idx_tup, idx_fz, idx_tk, Ev.bi_len, bi_abs, bi_int, bi_intb, bi_tuple, bi_list, bi_all, bi_any, bi_min2, bi_max2, bi_min1, bi_max1, bi_sum, bi_sorted, bi_isinst, recv_append, recv_extend, optI_nil, optI_one, Option.map_some, Option.bind_some, Bool.not_true, Bool.not_false, isNon_non, eqD_int, eqD_bl, decide_true, decide_false, if_true, if_false, Bool.false_eq_true, reduceIte, true_or, or_true, or_self, false_or, or_false, true_and, and_true, false_and, and_false, and_self, nats_len, rng_len, isC, OutS.turn_next, OutS.turn_ret, OutS.turn_cont, OutS.turn_brk, OutS.turn_exc, kt_NoneType_int, kt_NoneType_str, kt_NoneType_list, kt_NoneType_tuple, kt_NoneType_dict, kt_NoneType_bool, kt_bool_int, kt_bool_str, kt_bool_list, kt_bool_tuple, kt_bool_dict, kt_bool_bool, kt_int_int, kt_int_str, kt_int_list, kt_int_tuple, kt_int_dict, kt_int_bool, kt_str_int, kt_str_str, kt_str_list, kt_str_tuple, kt_str_dict, kt_str_bool, kt_list_int, kt_list_str, kt_list_list, kt_list_tuple, kt_list_dict, kt_list_bool, kt_tuple_int, kt_tuple_str, kt_tuple_list, kt_tuple_tuple, kt_tuple_dict, kt_tuple_bool, kt_dict_int, kt_dict_str, kt_dict_list, kt_dict_tuple, kt_dict_dict, kt_dict_bool, ty_non, ty_bl, ty_int, ty_str, ty_tup, ty_tk, ty_lst, ty_fz, isNon_bl, isNon_int, isNon_str, isNon_tupl, isNon_lstl, at0, at1, at2, at3, Int.reduceEq, Int.reduceLT, Int.reduceLE, Int.reduceSub, Int.reduceAdd, Int.reduceMul, List.length_cons, List.length_nil, List.length_append, Nat.zero_add, a1, List.length_map, show rows.length ≤ SZ by omega, lc, hp1, view_ref, get_last, Option.getD_some, hap]
      · by_cases hj : j < ps.length
        · rw [List.getElem?_append_left hj] at h1
          exact e4 j p' q' h1 h2
        · have : j = ps.length := by
            have := (List.getElem?_eq_some_iff.mp h1).1
            simp at this
            omega
          subst this
          simp at h1
          subst h1
          rw [e3, hq] at h2
          cases h2
          rw [e3]
          exact hp2)
  obtain ⟨ρ, st', ef, y, ps, e1, e2, e3, e4⟩ := key
  subst e1 e2
  rw [rng_len] at e3
  refine ⟨ps, ?_, by omega, e4⟩
  have b0 : atI (rows.map Row.d) 0 = some (.tup [r0.key.d, .tup (r0.cells.map Cell.d)]) := atI_at (i := 0) (by rw [List.getElem?_map, h0]; rfl)
  have hpos : 0 < rows.length := (List.getElem?_eq_some_iff.mp h0).1
  have b1 : atI (rows.map Row.d) (-1) = some (.tup [r1.key.d, .tup (r1.cells.map Cell.d)]) := by
    have hix : ixN (rows.map Row.d).length (-1) = some (rows.length - 1) := by
      rw [List.length_map]
      unfold ixN
      simp
      omega
    unfold atI
    rw [hix, Option.bind_some, List.getElem?_map, h1]
    rfl
  refine run_pop (F := f_statistics) (st' := [.lst (ps.map pairD)]) (d := .tup [.int (rows.length : Nat), r0.key.d, r1.key.d, .tup (ps.map pairD)]) rfl rfl rfl ?_ ?_
  · show evSs G (run G (k + 2) st.length) _ b_statistics [some (tbD t), some (.tup (rows.map Row.d)), none, none, none, none] st = _
    unfold b_statistics tbD colsD
    unfold tbD colsD at ef
    simp only [ss_cons, ss_nil, s_set, s_sets, s_put, s_expr, s_ret, s_retN, s_if, s_for1, s_for2, s_for3, s_for4, s_for5, s_brk, s_cont, s_raise, fb_one, fb_many, fb_manyK, lb_one, lb_many, e_non, e_bool, e_int, e_str, e_var, e_gf, e_tyE, e_bin, e_neg, e_nt, e_and, e_or, e_cmp, e_chain, e_isN, e_notN, e_isB, e_notB, e_call, e_bi, e_listR1, e_listR2, e_idx, e_slc, e_tupE, e_lstE, e_box, e_bm, es_nil, es_cons, et_nil, et_cons, ea_one, ea_cons, eo_one, eo_cons, ei_rng1, ei_rng2, ei_seq, ei_rev, e_lc1, e_lc2, e_lc3, e_lc4, e_lc5, e_bits, e_sset, ei_rng3, recv_index, idx_str, bi_ord, bi_str, bin_mulS, bin_addS, cmp_ltS, cmp_leS, cmp_gtS, cmp_geS, eqD_str, setSlots_nil, setSlots_cons, asg_many, asg_manyK, slc_lst, slc_tup, wipeD, Out.bind_ok, Out.bind_exc, Out.noX_ok, Out.thenS_ok, Out.thenS_exc, OutS.seq_next, OutS.seq_ret, OutS.seq_exc, OutS.seq_brk, OutS.seq_cont, lift_some, List.set_cons_succ, List.set_cons_zero, List.getElem?_cons_succ, List.getElem?_cons_zero, bin_add, bin_sub, bin_mul, bin_mod, bin_fdiv, bin_pow, bin_addL, bin_addT, bin_mulL, bin_mulT, cmp_eq, cmp_ne, cmp_mem, cmp_nmem, cmp_lt, cmp_le, cmp_gt, cmp_ge, view_int, view_bl, view_lst, view_tup, view_fz, view_tk, view_str, view_dk, view_non, idx_lst, idx_tup, idx_fz, idx_tk, Ev.bi_len, bi_abs, bi_int, bi_intb, bi_tuple, bi_list, bi_all, bi_any, bi_min2, bi_max2, bi_min1, bi_max1, bi_sum, bi_sorted, bi_isinst, recv_append, recv_extend, optI_nil, optI_one, Option.map_some, Option.bind_some, Bool.not_true, Bool.not_false, isNon_non, eqD_int, eqD_bl, decide_true, decide_false, if_true, if_false, Bool.false_eq_true, reduceIte, true_or, or_true, or_self, false_or, or_false, true_and, and_true, false_and, and_false, and_self, nats_len, rng_len, isC, OutS.turn_next, OutS.turn_ret, OutS.turn_cont, OutS.turn_brk, OutS.turn_exc, kt_NoneType_int, kt_NoneType_str, kt_NoneType_list, kt_NoneType_tuple, kt_NoneType_dict, kt_NoneType_bool, kt_bool_int, kt_bool_str, kt_bool_list, kt_bool_tuple, kt_bool_dict, kt_bool_bool, kt_int_int, kt_int_str, kt_int_list, kt_int_tuple, kt_int_dict, kt_int_bool, kt_str_int, kt_str_str, kt_str_list, kt_str_tuple, kt_str_dict, kt_str_bool, kt_list_int, kt_list_str, kt_list_list, kt_list_tuple, kt_list_dict, kt_list_bool, kt_tuple_int, kt_tuple_str, kt_tuple_list, kt_tuple_tuple, kt_tuple_dict, kt_tuple_bool, kt_dict_int, kt_dict_str, kt_dict_list, kt_dict_tuple, kt_dict_dict, kt_dict_bool, ty_non, ty_bl, ty_int, ty_str, ty_tup, ty_tk, ty_lst, ty_fz, isNon_bl, isNon_int, isNon_str, isNon_tupl, isNon_lstl, at0, at1, at2, at3, Int.reduceEq, Int.reduceLT, Int.reduceLE, Int.reduceSub, Int.reduceAdd, Int.reduceMul, List.length_cons, List.length_nil, List.length_append, Nat.zero_add, List.length_map, sm, lm, ef, b0, b1, Int.reduceNeg, view_ref, get_last, Option.getD_some]
  · have hp : D.los 0 (ps.map pairD) = true := by
      clear ef e3 e4
      induction ps with
      | nil => rfl
      | cons p r ih =>
        show (D.lo 0 (pairD p) && D.los 0 (r.map pairD)) = true
        rw [ih]
        cases p with
        | none => rfl
        | some q =>
          show ((D.lo 0 q.1.d && (D.lo 0 q.2.d && true)) && true) = true
          rw [OV.lo, OV.lo]; rfl
    unfold unbox
    dsimp only
    rw [if_pos]
    show (true && (D.lo 0 r0.key.d && (D.lo 0 r1.key.d && (D.los 0 (ps.map pairD) && true)))) = true
    rw [OV.lo, OV.lo, hp]
    rfl
/-! ### sorted numbers or texts -/
theorem kinds_i {ms : List OV} (hk : ∀ m ∈ ms, m.k = true) : ∃ ns : List Int, ms = ns.map OV.i := by
  induction ms with
  | nil => exact ⟨[], rfl⟩
  | cons m r ih =>
    obtain ⟨ns, rfl⟩ := ih fun x hx => hk x (by simp [hx])
    have := hk m (by simp)
    cases m with
    | i n => exact ⟨n :: ns, rfl⟩
    | s x => simp [OV.k] at this
theorem kinds_s {ms : List OV} (hk : ∀ m ∈ ms, m.k = false) : ∃ ss : List Str, ms = ss.map OV.s := by
  induction ms with
  | nil => exact ⟨[], rfl⟩
  | cons m r ih =>
    obtain ⟨ss, rfl⟩ := ih fun x hx => hk x (by simp [hx])
    have := hk m (by simp)
    cases m with
    | i n => simp [OV.k] at this
    | s x => exact ⟨x :: ss, rfl⟩
theorem sort_O {ms : List OV} {b : Bool} (hk : ∀ m ∈ ms, m.k = b) : ∃ ss : List OV, (∀ st d, view st d = .lst (ms.map OV.d) → biD st .sorted [d] = some (.lst (ss.map OV.d))) ∧ ss.Perm ms ∧ ss.Pairwise (fun x y => ltO y x = false) := by
  cases b with
  | true =>
    obtain ⟨ns, rfl⟩ := kinds_i hk
    have e : ∀ ns : List Int, (ns.map OV.i).map OV.d = zs ns := fun ns => by rw [List.map_map]; rfl
    refine ⟨(isort ns).map OV.i, fun st d hd => ?_, (isort_perm ns).map _, List.pairwise_map.mpr ((isort_pair ns).imp fun {x y} h => by simp [ltO]; omega)⟩
    rw [e] at hd
    rw [bi_sorted, hd]
    dsimp only
    rw [toInts_zs, e]
    rfl
  | false =>
    obtain ⟨ss, rfl⟩ := kinds_s hk
    have e : ∀ ss : List Str, (ss.map OV.s).map OV.d = ss.map D.str := fun ss => by rw [List.map_map]; rfl
    refine ⟨(tsort ss).map OV.s, fun st d hd => ?_, (tsort_perm ss).map _, List.pairwise_map.mpr ((tsort_pair ss).imp fun {x y} h => h)⟩
    rw [e] at hd
    rw [bi_sorted, hd]
    dsimp only
    cases ss with
    | nil => rfl
    | cons x r =>
      rw [show toInts ((x :: r).map D.str) = none from rfl]
      dsimp only
      rw [toStrs_strs, e]
      rfl
theorem eqv_O (a b : OV) : eqv a.d b.d = decide (a = b) := by
  cases a <;> cases b <;> simp [OV.d, eqv]
theorem any_O {o : OV} : ∀ ms : List OV, ((ms.map OV.d).any fun y => eqv y o.d) = decide (o ∈ ms)
  | [] => by simp
  | m :: r => by
    rw [List.map_cons, List.any_cons, any_O r, eqv_O]
    by_cases h1 : m = o
    · subst h1; simp
    · have h2 : ¬ o = m := fun e => h1 e.symm
      simp [h1, h2]
theorem flat_O (ms : List OV) : (ms.map OV.d).all flat = true := by
  rw [List.all_eq_true]
  intro y hy
  obtain ⟨m, _, rfl⟩ := List.mem_map.mp hy
  cases m <;> rfl
theorem mem_O {st : Sto} {d : D} {o : OV} {ms : List OV} (h : view st d = .lst (ms.map OV.d)) : memD st o.d d = some (decide (o ∈ ms)) := by
  unfold memD
  rw [h]
  dsimp only
  rw [dO, okNs_ov, any_O]
  rfl
theorem insU_len (x : Str) : ∀ l : List Str, (insU x l).length ≤ l.length + 1
  | [] => by simp [insU]
  | y :: r => by
    have := insU_len x r
    unfold insU
    split
    · simp
    · split
      · simp; omega
      · simp
theorem usort_len : ∀ l : List Str, (usort l).length ≤ l.length
  | [] => by simp [usort]
  | x :: r => by
    have h1 := insU_len x (usort r)
    have h2 := usort_len r
    rw [usort, List.length_cons]
    omega
/-! ### drawn rows from a widened cell -/
def six : List Str := [(S [119, 111, 114, 100]), (S [110, 117, 109, 98, 101, 114]), (S [115, 117, 109]), (S [109, 111, 115, 116]), (S [108, 111, 116]), (S [115, 104, 97, 114, 101])]
theorem q1013 : (0 : Int) ≤ 13 ∧ (13 : Int) ≤ 1000000 ∧ (10 : Int).natAbs < 2 ^ 64 := by decide
theorem z1013 : (10 : Int) ^ (13 : Int).toNat = 10000000000000 := by decide
theorem mul214 : mulOk 2 100000000000000 = true := mulOk_of (.inl (by decide))
theorem mul313 : mulOk 3 10000000000000 = true := mulOk_of (.inl (by decide))
section
variable {k fl : Nat} {rw : List Nat} {W : Wd} {e : Sto}
theorem fac2 {b : Bool} {x y : Int} : ∃ z : Int, atI [D.int x, .int y] (if b = true then 1 else 0) = some (.int z) ∧ (z = x ∨ z = y) := by
  cases b
  · exact ⟨x, rfl, .inl rfl⟩
  · exact ⟨y, rfl, .inr rfl⟩
theorem w_a_cell {a stations : Nat} {r : Str} (hr : rw.length = 400) (hW : WdOk W) (hs : r ∈ six) (hst : stations ≤ 100) :
    ∃ c a', run G (k + 3) fl i__law_a_cell [.ref 0, .str r, .int (stations : Int)] (wcell rw a W :: e) = .ok c.d (wcell rw a' W :: e) ∧ suits r c ∧ (mems c).length ≤ 1000 := by
  have hz : SZ = 16777216 := rfl
  have fin : ∀ (c : Cell) (a' : Nat), evSs G (run G (k + 2) (e.length + 1)) (e.length + 1) b__law_a_cell [some (.ref 0), some (.str r), some (.int (stations : Int)), none, none] (wcell rw a W :: e) = .ret c.d (wcell rw a' W :: e) → suits r c → (mems c).length ≤ 1000 →
      ∃ c a', run G (k + 3) fl i__law_a_cell [.ref 0, .str r, .int (stations : Int)] (wcell rw a W :: e) = .ok c.d (wcell rw a' W :: e) ∧ suits r c ∧ (mems c).length ≤ 1000 := fun c a' h1 h2 h3 =>
    ⟨c, a', by
      have q := run_popS (G := G) (k := k + 2) (fl := fl) (F := f__law_a_cell) (f := i__law_a_cell) (ds := [.ref 0, .str r, .int (stations : Int)]) (st := wcell rw a W :: e) (st' := wcell rw a' W :: e) (d := c.d) (d' := c.d) rfl rfl rfl h1 (by
        have : D.lo 0 c.d = true := Cell.lo
        cases c with
        | v o => exact unboxO
        | lot ws => exact if_pos (show D.lo 0 (.tup (ws.map D.str)) = true from this)
        | sh ns => exact if_pos (show D.lo 0 (.tup (zs ns)) = true from this))
      rw [q]
      simp, h2, h3⟩
  by_cases h1 : r = (S [119, 111, 114, 100])
  · obtain ⟨s, e1, _⟩ := w_word (k := k) (fl := e.length + 1) (a := a) (e := e) hr hW
    refine fin (.v (.s s)) (a + 1) ?_ h1 (by simp [mems])
    unfold b__law_a_cell
    simp only [ss_cons, ss_nil, s_set, s_sets, s_put, s_expr, s_ret, s_retN, s_if, s_for1, s_for2, s_for3, s_for4, s_for5, s_brk, s_cont, s_raise, fb_one, fb_many, fb_manyK, lb_one, lb_many, e_non, e_bool, e_int, e_str, e_var, e_gf, e_tyE, e_bin, e_neg, e_nt, e_and, e_or, e_cmp, e_chain, e_isN, e_notN, e_isB, e_notB, e_call, e_bi, e_listR1, e_listR2, e_idx, e_slc, e_tupE, e_lstE, e_box, e_bm, es_nil, es_cons, et_nil, et_cons, ea_one, ea_cons, eo_one, eo_cons, ei_rng1, ei_rng2, ei_seq, ei_rev, e_lc1, e_lc2, e_lc3, e_lc4, e_lc5, e_bits, e_sset, ei_rng3, recv_index, idx_str, bi_ord, bi_str, bin_mulS, bin_addS, cmp_ltS, cmp_leS, cmp_gtS, cmp_geS, eqD_str, setSlots_nil, setSlots_cons, asg_many, asg_manyK, slc_lst, slc_tup, wipeD, Out.bind_ok, Out.bind_exc, Out.noX_ok, Out.thenS_ok, Out.thenS_exc, OutS.seq_next, OutS.seq_ret, OutS.seq_exc, OutS.seq_brk, OutS.seq_cont, lift_some, List.set_cons_succ, List.set_cons_zero, List.getElem?_cons_succ, List.getElem?_cons_zero, bin_add, bin_sub, bin_mul, bin_mod, bin_fdiv, bin_pow, bin_addL, bin_addT, bin_mulL, bin_mulT, cmp_eq, cmp_ne, cmp_mem, cmp_nmem, cmp_lt, cmp_le, cmp_gt, cmp_ge, view_int, view_bl, view_lst, view_tup, view_fz, view_tk, view_str, view_dk, view_non, idx_lst, idx_tup, idx_fz, idx_tk, Ev.bi_len, bi_abs, bi_int, bi_intb, bi_tuple, bi_list, bi_all, bi_any, bi_min2, bi_max2, bi_min1, bi_max1, bi_sum, bi_sorted, bi_isinst, recv_append, recv_extend, optI_nil, optI_one, Option.map_some, Option.bind_some, Bool.not_true, Bool.not_false, isNon_non, eqD_int, eqD_bl, decide_true, decide_false, if_true, if_false, Bool.false_eq_true, reduceIte, true_or, or_true, or_self, false_or, or_false, true_and, and_true, false_and, and_false, and_self, nats_len, rng_len, isC, OutS.turn_next, OutS.turn_ret, OutS.turn_cont, OutS.turn_brk, OutS.turn_exc, kt_NoneType_int, kt_NoneType_str, kt_NoneType_list, kt_NoneType_tuple, kt_NoneType_dict, kt_NoneType_bool, kt_bool_int, kt_bool_str, kt_bool_list, kt_bool_tuple, kt_bool_dict, kt_bool_bool, kt_int_int, kt_int_str, kt_int_list, kt_int_tuple, kt_int_dict, kt_int_bool, kt_str_int, kt_str_str, kt_str_list, kt_str_tuple, kt_str_dict, kt_str_bool, kt_list_int, kt_list_str, kt_list_list, kt_list_tuple, kt_list_dict, kt_list_bool, kt_tuple_int, kt_tuple_str, kt_tuple_list, kt_tuple_tuple, kt_tuple_dict, kt_tuple_bool, kt_dict_int, kt_dict_str, kt_dict_list, kt_dict_tuple, kt_dict_dict, kt_dict_bool, ty_non, ty_bl, ty_int, ty_str, ty_tup, ty_tk, ty_lst, ty_fz, isNon_bl, isNon_int, isNon_str, isNon_tupl, isNon_lstl, at0, at1, at2, at3, Int.reduceEq, Int.reduceLT, Int.reduceLE, Int.reduceSub, Int.reduceAdd, Int.reduceMul, List.length_cons, List.length_nil, List.length_append, Nat.zero_add, eq_true h1, e1]
    rfl
  by_cases h2 : r = (S [108, 111, 116])
  · obtain ⟨m, hm⟩ : ∃ m : Nat, tk rw a % 4 = m := ⟨_, rfl⟩
    have hm' : (tk rw a : Int) % 4 = (m : Int) := by omega
    have sm : small62 (m : Int) = true := small62_n (by omega)
    have lm : ((m : Int) - 0).toNat ≤ SZ := by omega
    obtain ⟨ds, st', e1, l, a', q1, q2, q3⟩ := lcGo_inv (f := lb G (run G (k + 2) (e.length + 1)) (e.length + 1) [some (.ref 0), some (.str r), some (.int (stations : Int)), none, none] [3] (.one 3) .nil b__law_a_cell_c1) (xs := rng 0 (m : Int)) (fun i ds st => ∃ (l : List Str) (a' : Nat), ds = l.map D.str ∧ st = (wcell rw a' W :: e) ∧ l.length = i) (st := (wcell rw (a + 1) W :: e)) ⟨[], a + 1, rfl, rfl, rfl⟩ (by
      intro i x hx ds st ⟨l, a', q1, q2, q3⟩
      subst q1 q2
      obtain ⟨s, e1, _⟩ := w_word (k := k) (fl := e.length + 1) (a := a') (e := e) hr hW
      refine ⟨some (.str s), (wcell rw (a' + 1) W :: e), ?_, l ++ [s], a' + 1, by simp, rfl, by simp [q3]⟩
      unfold b__law_a_cell_c1
      simp only [ss_cons, ss_nil, s_set, s_sets, s_put, s_expr, s_ret, s_retN, s_if, s_for1, s_for2, s_for3, s_for4, s_for5, s_brk, s_cont, s_raise, fb_one, fb_many, fb_manyK, lb_one, lb_many, e_non, e_bool, e_int, e_str, e_var, e_gf, e_tyE, e_bin, e_neg, e_nt, e_and, e_or, e_cmp, e_chain, e_isN, e_notN, e_isB, e_notB, e_call, e_bi, e_listR1, e_listR2, e_idx, e_slc, e_tupE, e_lstE, e_box, e_bm, es_nil, es_cons, et_nil, et_cons, ea_one, ea_cons, eo_one, eo_cons, ei_rng1, ei_rng2, ei_seq, ei_rev, e_lc1, e_lc2, e_lc3, e_lc4, e_lc5, e_bits, e_sset, ei_rng3, recv_index, idx_str, bi_ord, bi_str, bin_mulS, bin_addS, cmp_ltS, cmp_leS, cmp_gtS, cmp_geS, eqD_str, setSlots_nil, setSlots_cons, asg_many, asg_manyK, slc_lst, slc_tup, wipeD, Out.bind_ok, Out.bind_exc, Out.noX_ok, Out.thenS_ok, Out.thenS_exc, OutS.seq_next, OutS.seq_ret, OutS.seq_exc, OutS.seq_brk, OutS.seq_cont, lift_some, List.set_cons_succ, List.set_cons_zero, List.getElem?_cons_succ, List.getElem?_cons_zero, bin_add, bin_sub, bin_mul, bin_mod, bin_fdiv, bin_pow, bin_addL, bin_addT, bin_mulL, bin_mulT, cmp_eq, cmp_ne, cmp_mem, cmp_nmem, cmp_lt, cmp_le, cmp_gt, cmp_ge, view_int, view_bl, view_lst, view_tup, view_fz, view_tk, view_str, view_dk, view_non, idx_lst, idx_tup, idx_fz, idx_tk, Ev.bi_len, bi_abs, bi_int, bi_intb, bi_tuple, bi_list, bi_all, bi_any, bi_min2, bi_max2, bi_min1, bi_max1, bi_sum, bi_sorted, bi_isinst, recv_append, recv_extend, optI_nil, optI_one, Option.map_some, Option.bind_some, Bool.not_true, Bool.not_false, isNon_non, eqD_int, eqD_bl, decide_true, decide_false, if_true, if_false, Bool.false_eq_true, reduceIte, true_or, or_true, or_self, false_or, or_false, true_and, and_true, false_and, and_false, and_self, nats_len, rng_len, isC, OutS.turn_next, OutS.turn_ret, OutS.turn_cont, OutS.turn_brk, OutS.turn_exc, kt_NoneType_int, kt_NoneType_str, kt_NoneType_list, kt_NoneType_tuple, kt_NoneType_dict, kt_NoneType_bool, kt_bool_int, kt_bool_str, kt_bool_list, kt_bool_tuple, kt_bool_dict, kt_bool_bool, kt_int_int, kt_int_str, kt_int_list, kt_int_tuple, kt_int_dict, kt_int_bool, kt_str_int, kt_str_str, kt_str_list, kt_str_tuple, kt_str_dict, kt_str_bool, kt_list_int, kt_list_str, kt_list_list, kt_list_tuple, kt_list_dict, kt_list_bool, kt_tuple_int, kt_tuple_str, kt_tuple_list, kt_tuple_tuple, kt_tuple_dict, kt_tuple_bool, kt_dict_int, kt_dict_str, kt_dict_list, kt_dict_tuple, kt_dict_dict, kt_dict_bool, ty_non, ty_bl, ty_int, ty_str, ty_tup, ty_tk, ty_lst, ty_fz, isNon_bl, isNon_int, isNon_str, isNon_tupl, isNon_lstl, at0, at1, at2, at3, Int.reduceEq, Int.reduceLT, Int.reduceLE, Int.reduceSub, Int.reduceAdd, Int.reduceMul, List.length_cons, List.length_nil, List.length_append, Nat.zero_add, e1])
    subst q1 q2
    rw [rng_len] at q3
    have hu := usort_len l
    have htx : ∀ st, textsOf st (.lst (l.map D.str)) = some l := fun st => toStrs_strs l
    refine fin (.lot (usort l)) a' ?_ h2 (by simp [mems]; omega)
    unfold b__law_a_cell
    simp only [ss_cons, ss_nil, s_set, s_sets, s_put, s_expr, s_ret, s_retN, s_if, s_for1, s_for2, s_for3, s_for4, s_for5, s_brk, s_cont, s_raise, fb_one, fb_many, fb_manyK, lb_one, lb_many, e_non, e_bool, e_int, e_str, e_var, e_gf, e_tyE, e_bin, e_neg, e_nt, e_and, e_or, e_cmp, e_chain, e_isN, e_notN, e_isB, e_notB, e_call, e_bi, e_listR1, e_listR2, e_idx, e_slc, e_tupE, e_lstE, e_box, e_bm, es_nil, es_cons, et_nil, et_cons, ea_one, ea_cons, eo_one, eo_cons, ei_rng1, ei_rng2, ei_seq, ei_rev, e_lc1, e_lc2, e_lc3, e_lc4, e_lc5, e_bits, e_sset, ei_rng3, recv_index, idx_str, bi_ord, bi_str, bin_mulS, bin_addS, cmp_ltS, cmp_leS, cmp_gtS, cmp_geS, eqD_str, setSlots_nil, setSlots_cons, asg_many, asg_manyK, slc_lst, slc_tup, wipeD, Out.bind_ok, Out.bind_exc, Out.noX_ok, Out.thenS_ok, Out.thenS_exc, OutS.seq_next, OutS.seq_ret, OutS.seq_exc, OutS.seq_brk, OutS.seq_cont, lift_some, List.set_cons_succ, List.set_cons_zero, List.getElem?_cons_succ, List.getElem?_cons_zero, bin_add, bin_sub, bin_mul, bin_mod, bin_fdiv, bin_pow, bin_addL, bin_addT, bin_mulL, bin_mulT, cmp_eq, cmp_ne, cmp_mem, cmp_nmem, cmp_lt, cmp_le, cmp_gt, cmp_ge, view_int, view_bl, view_lst, view_tup, view_fz, view_tk, view_str, view_dk, view_non, idx_lst, idx_tup, idx_fz, idx_tk, Ev.bi_len, bi_abs, bi_int, bi_intb, bi_tuple, bi_list, bi_all, bi_any, bi_min2, bi_max2, bi_min1, bi_max1, bi_sum, bi_sorted, bi_isinst, recv_append, recv_extend, optI_nil, optI_one, Option.map_some, Option.bind_some, Bool.not_true, Bool.not_false, isNon_non, eqD_int, eqD_bl, decide_true, decide_false, if_true, if_false, Bool.false_eq_true, reduceIte, true_or, or_true, or_self, false_or, or_false, true_and, and_true, false_and, and_false, and_self, nats_len, rng_len, isC, OutS.turn_next, OutS.turn_ret, OutS.turn_cont, OutS.turn_brk, OutS.turn_exc, kt_NoneType_int, kt_NoneType_str, kt_NoneType_list, kt_NoneType_tuple, kt_NoneType_dict, kt_NoneType_bool, kt_bool_int, kt_bool_str, kt_bool_list, kt_bool_tuple, kt_bool_dict, kt_bool_bool, kt_int_int, kt_int_str, kt_int_list, kt_int_tuple, kt_int_dict, kt_int_bool, kt_str_int, kt_str_str, kt_str_list, kt_str_tuple, kt_str_dict, kt_str_bool, kt_list_int, kt_list_str, kt_list_list, kt_list_tuple, kt_list_dict, kt_list_bool, kt_tuple_int, kt_tuple_str, kt_tuple_list, kt_tuple_tuple, kt_tuple_dict, kt_tuple_bool, kt_dict_int, kt_dict_str, kt_dict_list, kt_dict_tuple, kt_dict_dict, kt_dict_bool, ty_non, ty_bl, ty_int, ty_str, ty_tup, ty_tk, ty_lst, ty_fz, isNon_bl, isNon_int, isNon_str, isNon_tupl, isNon_lstl, at0, at1, at2, at3, Int.reduceEq, Int.reduceLT, Int.reduceLE, Int.reduceSub, Int.reduceAdd, Int.reduceMul, List.length_cons, List.length_nil, List.length_append, Nat.zero_add, eq_false h1, eq_true h2, w_take (k := k + 1) hr, show (0 : Int) < 4 by decide, hm', sm, lm, e1, htx, show (usort l).length < 4095 by omega]
    rfl
  by_cases h3 : r = (S [115, 104, 97, 114, 101])
  · have sm : small62 (stations : Int) = true := small62_n (by omega)
    have lm : ((stations : Int) - 0).toNat ≤ SZ := by omega
    obtain ⟨z, hz1, hz2⟩ := fac2 (b := W.wide) (x := 1) (y := 200000000000000)
    have hmul : ∀ a, mulOk ((tk rw a : Int) % 5) z = true := fun a => mulOk_of (.inl (by
      have h264 : (2 : Int) ^ 64 = 18446744073709551616 := by decide
      rw [h264]
      omega))
    obtain ⟨ds, st', e1, l, a', q1, q2, q3⟩ := lcGo_inv (f := lb G (run G (k + 2) (e.length + 1)) (e.length + 1) [some (.ref 0), some (.str r), some (.int (stations : Int)), none, none] [3] (.one 3) .nil b__law_a_cell_c2) (xs := rng 0 (stations : Int)) (fun i ds st => ∃ (l : List Int) (a' : Nat), ds = zs l ∧ st = (wcell rw a' W :: e) ∧ l.length = i) (st := (wcell rw a W :: e)) ⟨[], a, rfl, rfl, rfl⟩ (by
      intro i x hx ds st ⟨l, a', q1, q2, q3⟩
      subst q1 q2
      refine ⟨some (.int ((tk rw a' : Int) % 5 * z)), (wcell rw (a' + 1) W :: e), ?_, l ++ [(tk rw a' : Int) % 5 * z], a' + 1, by simp [zs], rfl, by simp [q3]⟩
      have wid := w_wide (rw := rw) (a := a' + 1) (W := W) (e := e)
      unfold b__law_a_cell_c2
      simp only [ss_cons, ss_nil, s_set, s_sets, s_put, s_expr, s_ret, s_retN, s_if, s_for1, s_for2, s_for3, s_for4, s_for5, s_brk, s_cont, s_raise, fb_one, fb_many, fb_manyK, lb_one, lb_many, e_non, e_bool, e_int, e_str, e_var, e_gf, e_tyE, e_bin, e_neg, e_nt, e_and, e_or, e_cmp, e_chain, e_isN, e_notN, e_isB, e_notB, e_call, e_bi, e_listR1, e_listR2, e_idx, e_slc, e_tupE, e_lstE, e_box, e_bm, es_nil, es_cons, et_nil, et_cons, ea_one, ea_cons, eo_one, eo_cons, ei_rng1, ei_rng2, ei_seq, ei_rev, e_lc1, e_lc2, e_lc3, e_lc4, e_lc5, e_bits, e_sset, ei_rng3, recv_index, idx_str, bi_ord, bi_str, bin_mulS, bin_addS, cmp_ltS, cmp_leS, cmp_gtS, cmp_geS, eqD_str, setSlots_nil, setSlots_cons, asg_many, asg_manyK, slc_lst, slc_tup, wipeD, Out.bind_ok, Out.bind_exc, Out.noX_ok, Out.thenS_ok, Out.thenS_exc, OutS.seq_next, OutS.seq_ret, OutS.seq_exc, OutS.seq_brk, OutS.seq_cont, lift_some, List.set_cons_succ, List.set_cons_zero, List.getElem?_cons_succ, List.getElem?_cons_zero, bin_add, bin_sub, bin_mul, bin_mod, bin_fdiv, bin_pow, bin_addL, bin_addT, bin_mulL, bin_mulT, cmp_eq, cmp_ne, cmp_mem, cmp_nmem, cmp_lt, cmp_le, cmp_gt, cmp_ge, view_int, view_bl, view_lst, view_tup, view_fz, view_tk, view_str, view_dk, view_non, idx_lst, idx_tup, idx_fz, idx_tk, Ev.bi_len, bi_abs, bi_int, bi_intb, bi_tuple, bi_list, bi_all, bi_any, bi_min2, bi_max2, bi_min1, bi_max1, bi_sum, bi_sorted, bi_isinst, recv_append, recv_extend, optI_nil, optI_one, Option.map_some, Option.bind_some, Bool.not_true, Bool.not_false, isNon_non, eqD_int, eqD_bl, decide_true, decide_false, if_true, if_false, Bool.false_eq_true, reduceIte, true_or, or_true, or_self, false_or, or_false, true_and, and_true, false_and, and_false, and_self, nats_len, rng_len, isC, OutS.turn_next, OutS.turn_ret, OutS.turn_cont, OutS.turn_brk, OutS.turn_exc, kt_NoneType_int, kt_NoneType_str, kt_NoneType_list, kt_NoneType_tuple, kt_NoneType_dict, kt_NoneType_bool, kt_bool_int, kt_bool_str, kt_bool_list, kt_bool_tuple, kt_bool_dict, kt_bool_bool, kt_int_int, kt_int_str, kt_int_list, kt_int_tuple, kt_int_dict, kt_int_bool, kt_str_int, kt_str_str, kt_str_list, kt_str_tuple, kt_str_dict, kt_str_bool, kt_list_int, kt_list_str, kt_list_list, kt_list_tuple, kt_list_dict, kt_list_bool, kt_tuple_int, kt_tuple_str, kt_tuple_list, kt_tuple_tuple, kt_tuple_dict, kt_tuple_bool, kt_dict_int, kt_dict_str, kt_dict_list, kt_dict_tuple, kt_dict_dict, kt_dict_bool, ty_non, ty_bl, ty_int, ty_str, ty_tup, ty_tk, ty_lst, ty_fz, isNon_bl, isNon_int, isNon_str, isNon_tupl, isNon_lstl, at0, at1, at2, at3, Int.reduceEq, Int.reduceLT, Int.reduceLE, Int.reduceSub, Int.reduceAdd, Int.reduceMul, List.length_cons, List.length_nil, List.length_append, Nat.zero_add, w_take (k := k + 1) hr, show (0 : Int) < 5 by decide, q1014, z1014, mul214, wid, bi_intb, hz1, hmul])
    subst q1 q2
    refine fin (.sh l) a' ?_ h3 (by simp [mems])
    unfold b__law_a_cell
    simp only [ss_cons, ss_nil, s_set, s_sets, s_put, s_expr, s_ret, s_retN, s_if, s_for1, s_for2, s_for3, s_for4, s_for5, s_brk, s_cont, s_raise, fb_one, fb_many, fb_manyK, lb_one, lb_many, e_non, e_bool, e_int, e_str, e_var, e_gf, e_tyE, e_bin, e_neg, e_nt, e_and, e_or, e_cmp, e_chain, e_isN, e_notN, e_isB, e_notB, e_call, e_bi, e_listR1, e_listR2, e_idx, e_slc, e_tupE, e_lstE, e_box, e_bm, es_nil, es_cons, et_nil, et_cons, ea_one, ea_cons, eo_one, eo_cons, ei_rng1, ei_rng2, ei_seq, ei_rev, e_lc1, e_lc2, e_lc3, e_lc4, e_lc5, e_bits, e_sset, ei_rng3, recv_index, idx_str, bi_ord, bi_str, bin_mulS, bin_addS, cmp_ltS, cmp_leS, cmp_gtS, cmp_geS, eqD_str, setSlots_nil, setSlots_cons, asg_many, asg_manyK, slc_lst, slc_tup, wipeD, Out.bind_ok, Out.bind_exc, Out.noX_ok, Out.thenS_ok, Out.thenS_exc, OutS.seq_next, OutS.seq_ret, OutS.seq_exc, OutS.seq_brk, OutS.seq_cont, lift_some, List.set_cons_succ, List.set_cons_zero, List.getElem?_cons_succ, List.getElem?_cons_zero, bin_add, bin_sub, bin_mul, bin_mod, bin_fdiv, bin_pow, bin_addL, bin_addT, bin_mulL, bin_mulT, cmp_eq, cmp_ne, cmp_mem, cmp_nmem, cmp_lt, cmp_le, cmp_gt, cmp_ge, view_int, view_bl, view_lst, view_tup, view_fz, view_tk, view_str, view_dk, view_non, idx_lst, idx_tup, idx_fz, idx_tk, Ev.bi_len, bi_abs, bi_int, bi_intb, bi_tuple, bi_list, bi_all, bi_any, bi_min2, bi_max2, bi_min1, bi_max1, bi_sum, bi_sorted, bi_isinst, recv_append, recv_extend, optI_nil, optI_one, Option.map_some, Option.bind_some, Bool.not_true, Bool.not_false, isNon_non, eqD_int, eqD_bl, decide_true, decide_false, if_true, if_false, Bool.false_eq_true, reduceIte, true_or, or_true, or_self, false_or, or_false, true_and, and_true, false_and, and_false, and_self, nats_len, rng_len, isC, OutS.turn_next, OutS.turn_ret, OutS.turn_cont, OutS.turn_brk, OutS.turn_exc, kt_NoneType_int, kt_NoneType_str, kt_NoneType_list, kt_NoneType_tuple, kt_NoneType_dict, kt_NoneType_bool, kt_bool_int, kt_bool_str, kt_bool_list, kt_bool_tuple, kt_bool_dict, kt_bool_bool, kt_int_int, kt_int_str, kt_int_list, kt_int_tuple, kt_int_dict, kt_int_bool, kt_str_int, kt_str_str, kt_str_list, kt_str_tuple, kt_str_dict, kt_str_bool, kt_list_int, kt_list_str, kt_list_list, kt_list_tuple, kt_list_dict, kt_list_bool, kt_tuple_int, kt_tuple_str, kt_tuple_list, kt_tuple_tuple, kt_tuple_dict, kt_tuple_bool, kt_dict_int, kt_dict_str, kt_dict_list, kt_dict_tuple, kt_dict_dict, kt_dict_bool, ty_non, ty_bl, ty_int, ty_str, ty_tup, ty_tk, ty_lst, ty_fz, isNon_bl, isNon_int, isNon_str, isNon_tupl, isNon_lstl, at0, at1, at2, at3, Int.reduceEq, Int.reduceLT, Int.reduceLE, Int.reduceSub, Int.reduceAdd, Int.reduceMul, List.length_cons, List.length_nil, List.length_append, Nat.zero_add, eq_false h1, eq_false h2, eq_true h3, sm, lm, e1]
    rfl
  · have hnum : r = (S [110, 117, 109, 98, 101, 114]) ∨ r = (S [115, 117, 109]) ∨ r = (S [109, 111, 115, 116]) := by
      simp only [six, List.mem_cons, List.not_mem_nil, or_false] at hs
      rcases hs with h | h | h | h | h | h
      · exact absurd h h1
      · exact .inl h
      · exact .inr (.inl h)
      · exact .inr (.inr h)
      · exact absurd h h2
      · exact absurd h h3
    obtain ⟨v, hv, hvm⟩ := pick (xs := [D.int 0, .int 1, .int 7, .int 300, .int 1000000000000000, .int (tk rw a : Int)]) (t := tk rw (a + 1)) (n := 6) rfl (by decide)
    rw [show ((6 : Nat) : Int) = 6 from rfl] at hv
    obtain ⟨n, rfl⟩ : ∃ n : Int, v = .int n := by
      simp only [List.mem_cons, List.not_mem_nil, or_false] at hvm
      rcases hvm with rfl | rfl | rfl | rfl | rfl | rfl <;> exact ⟨_, rfl⟩
    by_cases h4 : r = (S [109, 111, 115, 116])
    · refine fin (.v (.i n)) (a + 2) ?_ hnum (by simp [mems])
      unfold b__law_a_cell
      simp only [ss_cons, ss_nil, s_set, s_sets, s_put, s_expr, s_ret, s_retN, s_if, s_for1, s_for2, s_for3, s_for4, s_for5, s_brk, s_cont, s_raise, fb_one, fb_many, fb_manyK, lb_one, lb_many, e_non, e_bool, e_int, e_str, e_var, e_gf, e_tyE, e_bin, e_neg, e_nt, e_and, e_or, e_cmp, e_chain, e_isN, e_notN, e_isB, e_notB, e_call, e_bi, e_listR1, e_listR2, e_idx, e_slc, e_tupE, e_lstE, e_box, e_bm, es_nil, es_cons, et_nil, et_cons, ea_one, ea_cons, eo_one, eo_cons, ei_rng1, ei_rng2, ei_seq, ei_rev, e_lc1, e_lc2, e_lc3, e_lc4, e_lc5, e_bits, e_sset, ei_rng3, recv_index, idx_str, bi_ord, bi_str, bin_mulS, bin_addS, cmp_ltS, cmp_leS, cmp_gtS, cmp_geS, eqD_str, setSlots_nil, setSlots_cons, asg_many, asg_manyK, slc_lst, slc_tup, wipeD, Out.bind_ok, Out.bind_exc, Out.noX_ok, Out.thenS_ok, Out.thenS_exc, OutS.seq_next, OutS.seq_ret, OutS.seq_exc, OutS.seq_brk, OutS.seq_cont, lift_some, List.set_cons_succ, List.set_cons_zero, List.getElem?_cons_succ, List.getElem?_cons_zero, bin_add, bin_sub, bin_mul, bin_mod, bin_fdiv, bin_pow, bin_addL, bin_addT, bin_mulL, bin_mulT, cmp_eq, cmp_ne, cmp_mem, cmp_nmem, cmp_lt, cmp_le, cmp_gt, cmp_ge, view_int, view_bl, view_lst, view_tup, view_fz, view_tk, view_str, view_dk, view_non, idx_lst, idx_tup, idx_fz, idx_tk, Ev.bi_len, bi_abs, bi_int, bi_intb, bi_tuple, bi_list, bi_all, bi_any, bi_min2, bi_max2, bi_min1, bi_max1, bi_sum, bi_sorted, bi_isinst, recv_append, recv_extend, optI_nil, optI_one, Option.map_some, Option.bind_some, Bool.not_true, Bool.not_false, isNon_non, eqD_int, eqD_bl, decide_true, decide_false, if_true, if_false, Bool.false_eq_true, reduceIte, true_or, or_true, or_self, false_or, or_false, true_and, and_true, false_and, and_false, and_self, nats_len, rng_len, isC, OutS.turn_next, OutS.turn_ret, OutS.turn_cont, OutS.turn_brk, OutS.turn_exc, kt_NoneType_int, kt_NoneType_str, kt_NoneType_list, kt_NoneType_tuple, kt_NoneType_dict, kt_NoneType_bool, kt_bool_int, kt_bool_str, kt_bool_list, kt_bool_tuple, kt_bool_dict, kt_bool_bool, kt_int_int, kt_int_str, kt_int_list, kt_int_tuple, kt_int_dict, kt_int_bool, kt_str_int, kt_str_str, kt_str_list, kt_str_tuple, kt_str_dict, kt_str_bool, kt_list_int, kt_list_str, kt_list_list, kt_list_tuple, kt_list_dict, kt_list_bool, kt_tuple_int, kt_tuple_str, kt_tuple_list, kt_tuple_tuple, kt_tuple_dict, kt_tuple_bool, kt_dict_int, kt_dict_str, kt_dict_list, kt_dict_tuple, kt_dict_dict, kt_dict_bool, ty_non, ty_bl, ty_int, ty_str, ty_tup, ty_tk, ty_lst, ty_fz, isNon_bl, isNon_int, isNon_str, isNon_tupl, isNon_lstl, at0, at1, at2, at3, Int.reduceEq, Int.reduceLT, Int.reduceLE, Int.reduceSub, Int.reduceAdd, Int.reduceMul, List.length_cons, List.length_nil, List.length_append, Nat.zero_add, eq_false h1, eq_false h2, eq_false h3, eq_true h4, q1015, z1015, w_take (k := k + 1) hr, show (0 : Int) < 6 by decide, hv]
      rfl
    · obtain ⟨m, hm⟩ : ∃ m : Nat, tk rw (a + 2) % 2 = m := ⟨_, rfl⟩
      have hm' : (tk rw (a + 2) : Int) % 2 = (m : Int) := by omega
      by_cases h5 : m = 0
      · refine fin (.v (.i n)) (a + 3) ?_ hnum (by simp [mems])
        have c0 : ((m : Int) = 0) = True := eq_true (by omega)
        unfold b__law_a_cell
        simp only [ss_cons, ss_nil, s_set, s_sets, s_put, s_expr, s_ret, s_retN, s_if, s_for1, s_for2, s_for3, s_for4, s_for5, s_brk, s_cont, s_raise, fb_one, fb_many, fb_manyK, lb_one, lb_many, e_non, e_bool, e_int, e_str, e_var, e_gf, e_tyE, e_bin, e_neg, e_nt, e_and, e_or, e_cmp, e_chain, e_isN, e_notN, e_isB, e_notB, e_call, e_bi, e_listR1, e_listR2, e_idx, e_slc, e_tupE, e_lstE, e_box, e_bm, es_nil, es_cons, et_nil, et_cons, ea_one, ea_cons, eo_one, eo_cons, ei_rng1, ei_rng2, ei_seq, ei_rev, e_lc1, e_lc2, e_lc3, e_lc4, e_lc5, e_bits, e_sset, ei_rng3, recv_index, idx_str, bi_ord, bi_str, bin_mulS, bin_addS, cmp_ltS, cmp_leS, cmp_gtS, cmp_geS, eqD_str, setSlots_nil, setSlots_cons, asg_many, asg_manyK, slc_lst, slc_tup, wipeD, Out.bind_ok, Out.bind_exc, Out.noX_ok, Out.thenS_ok, Out.thenS_exc, OutS.seq_next, OutS.seq_ret, OutS.seq_exc, OutS.seq_brk, OutS.seq_cont, lift_some, List.set_cons_succ, List.set_cons_zero, List.getElem?_cons_succ, List.getElem?_cons_zero, bin_add, bin_sub, bin_mul, bin_mod, bin_fdiv, bin_pow, bin_addL, bin_addT, bin_mulL, bin_mulT, cmp_eq, cmp_ne, cmp_mem, cmp_nmem, cmp_lt, cmp_le, cmp_gt, cmp_ge, view_int, view_bl, view_lst, view_tup, view_fz, view_tk, view_str, view_dk, view_non, idx_lst, idx_tup, idx_fz, idx_tk, Ev.bi_len, bi_abs, bi_int, bi_intb, bi_tuple, bi_list, bi_all, bi_any, bi_min2, bi_max2, bi_min1, bi_max1, bi_sum, bi_sorted, bi_isinst, recv_append, recv_extend, optI_nil, optI_one, Option.map_some, Option.bind_some, Bool.not_true, Bool.not_false, isNon_non, eqD_int, eqD_bl, decide_true, decide_false, if_true, if_false, Bool.false_eq_true, reduceIte, true_or, or_true, or_self, false_or, or_false, true_and, and_true, false_and, and_false, and_self, nats_len, rng_len, isC, OutS.turn_next, OutS.turn_ret, OutS.turn_cont, OutS.turn_brk, OutS.turn_exc, kt_NoneType_int, kt_NoneType_str, kt_NoneType_list, kt_NoneType_tuple, kt_NoneType_dict, kt_NoneType_bool, kt_bool_int, kt_bool_str, kt_bool_list, kt_bool_tuple, kt_bool_dict, kt_bool_bool, kt_int_int, kt_int_str, kt_int_list, kt_int_tuple, kt_int_dict, kt_int_bool, kt_str_int, kt_str_str, kt_str_list, kt_str_tuple, kt_str_dict, kt_str_bool, kt_list_int, kt_list_str, kt_list_list, kt_list_tuple, kt_list_dict, kt_list_bool, kt_tuple_int, kt_tuple_str, kt_tuple_list, kt_tuple_tuple, kt_tuple_dict, kt_tuple_bool, kt_dict_int, kt_dict_str, kt_dict_list, kt_dict_tuple, kt_dict_dict, kt_dict_bool, ty_non, ty_bl, ty_int, ty_str, ty_tup, ty_tk, ty_lst, ty_fz, isNon_bl, isNon_int, isNon_str, isNon_tupl, isNon_lstl, at0, at1, at2, at3, Int.reduceEq, Int.reduceLT, Int.reduceLE, Int.reduceSub, Int.reduceAdd, Int.reduceMul, List.length_cons, List.length_nil, List.length_append, Nat.zero_add, eq_false h1, eq_false h2, eq_false h3, eq_false h4, q1015, z1015, w_take (k := k + 1) hr, show (0 : Int) < 6 by decide, hv, show (0 : Int) < 2 by decide, hm', c0]
        rfl
      · refine fin (.v (.i (-n))) (a + 3) ?_ hnum (by simp [mems])
        have c0 : ((m : Int) = 0) = False := eq_false (by omega)
        unfold b__law_a_cell
        simp only [ss_cons, ss_nil, s_set, s_sets, s_put, s_expr, s_ret, s_retN, s_if, s_for1, s_for2, s_for3, s_for4, s_for5, s_brk, s_cont, s_raise, fb_one, fb_many, fb_manyK, lb_one, lb_many, e_non, e_bool, e_int, e_str, e_var, e_gf, e_tyE, e_bin, e_neg, e_nt, e_and, e_or, e_cmp, e_chain, e_isN, e_notN, e_isB, e_notB, e_call, e_bi, e_listR1, e_listR2, e_idx, e_slc, e_tupE, e_lstE, e_box, e_bm, es_nil, es_cons, et_nil, et_cons, ea_one, ea_cons, eo_one, eo_cons, ei_rng1, ei_rng2, ei_seq, ei_rev, e_lc1, e_lc2, e_lc3, e_lc4, e_lc5, e_bits, e_sset, ei_rng3, recv_index, idx_str, bi_ord, bi_str, bin_mulS, bin_addS, cmp_ltS, cmp_leS, cmp_gtS, cmp_geS, eqD_str, setSlots_nil, setSlots_cons, asg_many, asg_manyK, slc_lst, slc_tup, wipeD, Out.bind_ok, Out.bind_exc, Out.noX_ok, Out.thenS_ok, Out.thenS_exc, OutS.seq_next, OutS.seq_ret, OutS.seq_exc, OutS.seq_brk, OutS.seq_cont, lift_some, List.set_cons_succ, List.set_cons_zero, List.getElem?_cons_succ, List.getElem?_cons_zero, bin_add, bin_sub, bin_mul, bin_mod, bin_fdiv, bin_pow, bin_addL, bin_addT, bin_mulL, bin_mulT, cmp_eq, cmp_ne, cmp_mem, cmp_nmem, cmp_lt, cmp_le, cmp_gt, cmp_ge, view_int, view_bl, view_lst, view_tup, view_fz, view_tk, view_str, view_dk, view_non, idx_lst, idx_tup, idx_fz, idx_tk, Ev.bi_len, bi_abs, bi_int, bi_intb, bi_tuple, bi_list, bi_all, bi_any, bi_min2, bi_max2, bi_min1, bi_max1, bi_sum, bi_sorted, bi_isinst, recv_append, recv_extend, optI_nil, optI_one, Option.map_some, Option.bind_some, Bool.not_true, Bool.not_false, isNon_non, eqD_int, eqD_bl, decide_true, decide_false, if_true, if_false, Bool.false_eq_true, reduceIte, true_or, or_true, or_self, false_or, or_false, true_and, and_true, false_and, and_false, and_self, nats_len, rng_len, isC, OutS.turn_next, OutS.turn_ret, OutS.turn_cont, OutS.turn_brk, OutS.turn_exc, kt_NoneType_int, kt_NoneType_str, kt_NoneType_list, kt_NoneType_tuple, kt_NoneType_dict, kt_NoneType_bool, kt_bool_int, kt_bool_str, kt_bool_list, kt_bool_tuple, kt_bool_dict, kt_bool_bool, kt_int_int, kt_int_str, kt_int_list, kt_int_tuple, kt_int_dict, kt_int_bool, kt_str_int, kt_str_str, kt_str_list, kt_str_tuple, kt_str_dict, kt_str_bool, kt_list_int, kt_list_str, kt_list_list, kt_list_tuple, kt_list_dict, kt_list_bool, kt_tuple_int, kt_tuple_str, kt_tuple_list, kt_tuple_tuple, kt_tuple_dict, kt_tuple_bool, kt_dict_int, kt_dict_str, kt_dict_list, kt_dict_tuple, kt_dict_dict, kt_dict_bool, ty_non, ty_bl, ty_int, ty_str, ty_tup, ty_tk, ty_lst, ty_fz, isNon_bl, isNon_int, isNon_str, isNon_tupl, isNon_lstl, at0, at1, at2, at3, Int.reduceEq, Int.reduceLT, Int.reduceLE, Int.reduceSub, Int.reduceAdd, Int.reduceMul, List.length_cons, List.length_nil, List.length_append, Nat.zero_add, eq_false h1, eq_false h2, eq_false h3, eq_false h4, q1015, z1015, w_take (k := k + 1) hr, show (0 : Int) < 6 by decide, hv, show (0 : Int) < 2 by decide, hm', c0]
        rfl
theorem lo_rows {f : Nat} : ∀ l : List Row, D.los f (l.map Row.d) = true
  | [] => rfl
  | r :: l => by
    show ((D.lo f r.key.d && ((D.los f (r.cells.map Cell.d)) && true)) && D.los f (l.map Row.d)) = true
    rw [OV.lo, cells_lo, lo_rows l]; rfl
theorem app_ovE {c : D} {l : List OV} {o : OV} (hl : l.length < SZ) : bmD (e.length + 1) .append (.ref (e.length + 1)) [o.d] (c :: (e ++ [.lst (l.map OV.d)])) = .ok .non (c :: (e ++ [.lst ((l ++ [o]).map OV.d)])) := app_ov (st := c :: e) hl
theorem view_ks {c : D} {x : D} : view (c :: (e ++ [x])) (.ref (e.length + 1)) = x := by
  rw [view_ref]
  simp
theorem ks_str {s : Str} (hs : s.length ≤ 100) (n : Nat) : ((n % 30 : Nat) : Int).natAbs.log2 < 1920 ∧ s.length + (toString ((n % 30 : Nat) : Int) : Str).length ≤ SZ := by
  have hv : n % 30 < 30 := Nat.mod_lt _ (by decide)
  have h1 : ∀ v, v < 30 → (toString ((v : Nat) : Int) : Str).length ≤ 2 := by decide +kernel
  have h2 := h1 _ hv
  have hz : SZ = 16777216 := rfl
  refine ⟨?_, by omega⟩
  generalize n % 30 = v at hv
  have : Nat.log2 v < 10 ∨ v = 0 := by
    by_cases z : v = 0
    · exact .inr z
    · exact .inl ((Nat.log2_lt z).mpr (by omega))
  rw [Int.natAbs_natCast]
  rcases this with h | rfl
  · omega
  · decide
theorem w_rows_l1 {a : Nat} {t : Tb} {ks : List OV} {x2 x3 x5 x6 x7 x8 : Option D} (hr : rw.length = 400) (hW : WdOk W) (hks : ∀ o ∈ ks, o.k = kk t) (hl : ks.length ≤ 1000) :
    ∃ (a' : Nat) (ks' : List OV) (y6 : Option D), evSs G (run G (k + 2) (e.length + 1)) (e.length + 1) b__law_rows_l1 [some (.ref 0), some (tbD t), x2, x3, some (.ref (e.length + 1)), x5, x6, x7, x8] (wcell rw a W :: (e ++ [.lst (ks.map OV.d)])) = .next [some (.ref 0), some (tbD t), x2, x3, some (.ref (e.length + 1)), x5, y6, x7, x8] (wcell rw a' W :: (e ++ [.lst (ks'.map OV.d)])) ∧ (∀ o ∈ ks', o.k = kk t) ∧ ks'.length ≤ ks.length + 1 := by
  have hz : SZ = 16777216 := rfl
  have fin : ∀ (o : OV) (a' : Nat), o.k = kk t → (∀ (P : Bool), P = decide (o ∈ ks) → evSs G (run G (k + 2) (e.length + 1)) (e.length + 1) b__law_rows_l1 [some (.ref 0), some (tbD t), x2, x3, some (.ref (e.length + 1)), x5, x6, x7, x8] (wcell rw a W :: (e ++ [.lst (ks.map OV.d)])) = .next [some (.ref 0), some (tbD t), x2, x3, some (.ref (e.length + 1)), x5, some o.d, x7, x8] (wcell rw a' W :: (e ++ [.lst ((if P = true then ks else ks ++ [o]).map OV.d)]))) →
      ∃ (a' : Nat) (ks' : List OV) (y6 : Option D), evSs G (run G (k + 2) (e.length + 1)) (e.length + 1) b__law_rows_l1 [some (.ref 0), some (tbD t), x2, x3, some (.ref (e.length + 1)), x5, x6, x7, x8] (wcell rw a W :: (e ++ [.lst (ks.map OV.d)])) = .next [some (.ref 0), some (tbD t), x2, x3, some (.ref (e.length + 1)), x5, y6, x7, x8] (wcell rw a' W :: (e ++ [.lst (ks'.map OV.d)])) ∧ (∀ o ∈ ks', o.k = kk t) ∧ ks'.length ≤ ks.length + 1 := fun o a' ho h => by
    refine ⟨a', _, _, h _ rfl, fun z hz => ?_, ?_⟩
    · split at hz
      · exact hks z hz
      · rcases List.mem_append.mp hz with q | q
        · exact hks z q
        · rw [List.mem_singleton.mp q]; exact ho
    · split
      · omega
      · simp
  obtain ⟨z, hz1, hz2⟩ := fac2 (b := W.wide) (x := 1) (y := 30000000000000)
  have hmul : mulOk ((tk rw a : Int) % 50 - 20) z = true := mulOk_of (.inl (by
    have h264 : (2 : Int) ^ 64 = 18446744073709551616 := by decide
    rw [h264]
    omega))
  have wid := w_wide (rw := rw) (a := a + 1) (W := W) (e := e ++ [.lst (ks.map OV.d)])
  by_cases hk : t.kind = (S [119, 111, 114, 100])
  · obtain ⟨s, e1, hsm⟩ := w_word (k := k) (fl := e.length + 1) (a := a + 1) (e := e ++ [.lst (ks.map OV.d)]) hr hW
    have h30 : (0 : Int) < 30 := by decide
    have hv : (tk rw (a + 2) : Int) % 30 = ((tk rw (a + 2) % 30 : Nat) : Int) := by simp
    obtain ⟨hlog, hadd⟩ := ks_str (s := s) (by have := (hW.wo s hsm).1; omega) (tk rw (a + 2))
    generalize tk rw (a + 2) % 30 = v at hv hlog hadd
    refine fin (.s (s ++ (toString (v : Int) : Str))) (a + 3) (by unfold kk OV.k; rw [decide_eq_true hk]; rfl) fun P hP => ?_
    have hm := mem_O (st := (wcell rw (a + 3) W :: (e ++ [.lst (ks.map OV.d)]))) (d := .ref (e.length + 1)) (o := .s (s ++ (toString (v : Int) : Str))) (ms := ks) view_ks
    rw [← hP] at hm
    have hap := app_ovE (e := e) (c := wcell rw (a + 3) W) (l := ks) (o := .s (s ++ (toString (v : Int) : Str))) (by omega)
    unfold b__law_rows_l1 tbD
    cases P with
    | true => simp only [ss_cons, ss_nil, s_set, s_sets, s_put, s_expr, s_ret, s_retN, s_if, s_for1, s_for2, s_for3, s_for4, s_for5, s_brk, s_cont, s_raise, fb_one, fb_many, fb_manyK, lb_one, lb_many, e_non, e_bool, e_int, e_str, e_var, e_gf, e_tyE, e_bin, e_neg, e_nt, e_and, e_or, e_cmp, e_chain, e_isN, e_notN, e_isB, e_notB, e_call, e_bi, e_listR1, e_listR2, e_idx, e_slc, e_tupE, e_lstE, e_box, e_bm, es_nil, es_cons, et_nil, et_cons, ea_one, ea_cons, eo_one, eo_cons, ei_rng1, ei_rng2, ei_seq, ei_rev, e_lc1, e_lc2, e_lc3, e_lc4, e_lc5, e_bits, e_sset, ei_rng3, recv_index, idx_str, bi_ord, bi_str, bin_mulS, bin_addS, cmp_ltS, cmp_leS, cmp_gtS, cmp_geS, eqD_str, setSlots_nil, setSlots_cons, asg_many, asg_manyK, slc_lst, slc_tup, wipeD, Out.bind_ok, Out.bind_exc, Out.noX_ok, Out.thenS_ok, Out.thenS_exc, OutS.seq_next, OutS.seq_ret, OutS.seq_exc, OutS.seq_brk, OutS.seq_cont, lift_some, List.set_cons_succ, List.set_cons_zero, List.getElem?_cons_succ, List.getElem?_cons_zero, bin_add, bin_sub, bin_mul, bin_mod, bin_fdiv, bin_pow, bin_addL, bin_addT, bin_mulL, bin_mulT, cmp_eq, cmp_ne, cmp_mem, cmp_nmem, cmp_lt, cmp_le, cmp_gt, cmp_ge, view_int, view_bl, view_lst, view_tup, view_fz, view_tk, view_str, view_dk, view_non, idx_lst, idx_tup, idx_fz, idx_tk, Ev.bi_len, bi_abs, bi_int, bi_intb, bi_tuple, bi_list, bi_all, bi_any, bi_min2, bi_max2, bi_min1, bi_max1, bi_sum, bi_sorted, bi_isinst, recv_append, recv_extend, optI_nil, optI_one, Option.map_some, Option.bind_some, Bool.not_true, Bool.not_false, isNon_non, eqD_int, eqD_bl, decide_true, decide_false, if_true, if_false, Bool.false_eq_true, reduceIte, true_or, or_true, or_self, false_or, or_false, true_and, and_true, false_and, and_false, and_self, nats_len, rng_len, isC, OutS.turn_next, OutS.turn_ret, OutS.turn_cont, OutS.turn_brk, OutS.turn_exc, kt_NoneType_int, kt_NoneType_str, kt_NoneType_list, kt_NoneType_tuple, kt_NoneType_dict, kt_NoneType_bool, kt_bool_int, kt_bool_str, kt_bool_list, kt_bool_tuple, kt_bool_dict, kt_bool_bool, kt_int_int, kt_int_str, kt_int_list, kt_int_tuple, kt_int_dict, kt_int_bool, kt_str_int, kt_str_str, kt_str_list, kt_str_tuple, kt_str_dict, kt_str_bool, kt_list_int, kt_list_str, kt_list_list, kt_list_tuple, kt_list_dict, kt_list_bool, kt_tuple_int, kt_tuple_str, kt_tuple_list, kt_tuple_tuple, kt_tuple_dict, kt_tuple_bool, kt_dict_int, kt_dict_str, kt_dict_list, kt_dict_tuple, kt_dict_dict, kt_dict_bool, ty_non, ty_bl, ty_int, ty_str, ty_tup, ty_tk, ty_lst, ty_fz, isNon_bl, isNon_int, isNon_str, isNon_tupl, isNon_lstl, at0, at1, at2, at3, Int.reduceEq, Int.reduceLT, Int.reduceLE, Int.reduceSub, Int.reduceAdd, Int.reduceMul, List.length_cons, List.length_nil, List.length_append, Nat.zero_add, w_take (k := k + 1) hr, show (0 : Int) < 50 by decide, q1013, z1013, mul313, wid, bi_intb, hz1, hmul, eq_true hk, e1, h30, hv, hlog, hadd, show memD (wcell rw (a + 3) W :: (e ++ [.lst (ks.map OV.d)])) (.str (s ++ (toString (v : Int) : Str))) (.ref (e.length + 1)) = some true from hm, OV.d]
    | false => simp only [ss_cons, ss_nil, s_set, s_sets, s_put, s_expr, s_ret, s_retN, s_if, s_for1, s_for2, s_for3, s_for4, s_for5, s_brk, s_cont, s_raise, fb_one, fb_many, fb_manyK, lb_one, lb_many, e_non, e_bool, e_int, e_str, e_var, e_gf, e_tyE, e_bin, e_neg, e_nt, e_and, e_or, e_cmp, e_chain, e_isN, e_notN, e_isB, e_notB, e_call, e_bi, e_listR1, e_listR2, e_idx, e_slc, e_tupE, e_lstE, e_box, e_bm, es_nil, es_cons, et_nil, et_cons, ea_one, ea_cons, eo_one, eo_cons, ei_rng1, ei_rng2, ei_seq, ei_rev, e_lc1, e_lc2, e_lc3, e_lc4, e_lc5, e_bits, e_sset, ei_rng3, recv_index, idx_str, bi_ord, bi_str, bin_mulS, bin_addS, cmp_ltS, cmp_leS, cmp_gtS, cmp_geS, eqD_str, setSlots_nil, setSlots_cons, asg_many, asg_manyK, slc_lst, slc_tup, wipeD, Out.bind_ok, Out.bind_exc, Out.noX_ok, Out.thenS_ok, Out.thenS_exc, OutS.seq_next, OutS.seq_ret, OutS.seq_exc, OutS.seq_brk, OutS.seq_cont, lift_some, List.set_cons_succ, List.set_cons_zero, List.getElem?_cons_succ, List.getElem?_cons_zero, bin_add, bin_sub, bin_mul, bin_mod, bin_fdiv, bin_pow, bin_addL, bin_addT, bin_mulL, bin_mulT, cmp_eq, cmp_ne, cmp_mem, cmp_nmem, cmp_lt, cmp_le, cmp_gt, cmp_ge, view_int, view_bl, view_lst, view_tup, view_fz, view_tk, view_str, view_dk, view_non, idx_lst, idx_tup, idx_fz, idx_tk, Ev.bi_len, bi_abs, bi_int, bi_intb, bi_tuple, bi_list, bi_all, bi_any, bi_min2, bi_max2, bi_min1, bi_max1, bi_sum, bi_sorted, bi_isinst, recv_append, recv_extend, optI_nil, optI_one, Option.map_some, Option.bind_some, Bool.not_true, Bool.not_false, isNon_non, eqD_int, eqD_bl, decide_true, decide_false, if_true, if_false, Bool.false_eq_true, reduceIte, true_or, or_true, or_self, false_or, or_false, true_and, and_true, false_and, and_false, and_self, nats_len, rng_len, isC, OutS.turn_next, OutS.turn_ret, OutS.turn_cont, OutS.turn_brk, OutS.turn_exc, kt_NoneType_int, kt_NoneType_str, kt_NoneType_list, kt_NoneType_tuple, kt_NoneType_dict, kt_NoneType_bool, kt_bool_int, kt_bool_str, kt_bool_list, kt_bool_tuple, kt_bool_dict, kt_bool_bool, kt_int_int, kt_int_str, kt_int_list, kt_int_tuple, kt_int_dict, kt_int_bool, kt_str_int, kt_str_str, kt_str_list, kt_str_tuple, kt_str_dict, kt_str_bool, kt_list_int, kt_list_str, kt_list_list, kt_list_tuple, kt_list_dict, kt_list_bool, kt_tuple_int, kt_tuple_str, kt_tuple_list, kt_tuple_tuple, kt_tuple_dict, kt_tuple_bool, kt_dict_int, kt_dict_str, kt_dict_list, kt_dict_tuple, kt_dict_dict, kt_dict_bool, ty_non, ty_bl, ty_int, ty_str, ty_tup, ty_tk, ty_lst, ty_fz, isNon_bl, isNon_int, isNon_str, isNon_tupl, isNon_lstl, at0, at1, at2, at3, Int.reduceEq, Int.reduceLT, Int.reduceLE, Int.reduceSub, Int.reduceAdd, Int.reduceMul, List.length_cons, List.length_nil, List.length_append, Nat.zero_add, w_take (k := k + 1) hr, show (0 : Int) < 50 by decide, q1013, z1013, mul313, wid, bi_intb, hz1, hmul, eq_true hk, e1, h30, hv, hlog, hadd, show memD (wcell rw (a + 3) W :: (e ++ [.lst (ks.map OV.d)])) (.str (s ++ (toString (v : Int) : Str))) (.ref (e.length + 1)) = some false from hm, view_ks, OV.d, show bmD (e.length + 1) .append (.ref (e.length + 1)) [.str (s ++ (toString (v : Int) : Str))] (wcell rw (a + 3) W :: (e ++ [.lst (ks.map OV.d)])) = _ from hap]
  · refine fin (.i (((tk rw a : Int) % 50 - 20) * z)) (a + 1) (by unfold kk OV.k; rw [decide_eq_false hk]; rfl) fun P hP => ?_
    have hm := mem_O (st := (wcell rw (a + 1) W :: (e ++ [.lst (ks.map OV.d)]))) (d := .ref (e.length + 1)) (o := .i (((tk rw a : Int) % 50 - 20) * z)) (ms := ks) view_ks
    rw [← hP] at hm
    have hap := app_ovE (e := e) (c := wcell rw (a + 1) W) (l := ks) (o := .i (((tk rw a : Int) % 50 - 20) * z)) (by omega)
    unfold b__law_rows_l1 tbD
    cases P with
    | true => simp only [ss_cons, ss_nil, s_set, s_sets, s_put, s_expr, s_ret, s_retN, s_if, s_for1, s_for2, s_for3, s_for4, s_for5, s_brk, s_cont, s_raise, fb_one, fb_many, fb_manyK, lb_one, lb_many, e_non, e_bool, e_int, e_str, e_var, e_gf, e_tyE, e_bin, e_neg, e_nt, e_and, e_or, e_cmp, e_chain, e_isN, e_notN, e_isB, e_notB, e_call, e_bi, e_listR1, e_listR2, e_idx, e_slc, e_tupE, e_lstE, e_box, e_bm, es_nil, es_cons, et_nil, et_cons, ea_one, ea_cons, eo_one, eo_cons, ei_rng1, ei_rng2, ei_seq, ei_rev, e_lc1, e_lc2, e_lc3, e_lc4, e_lc5, e_bits, e_sset, ei_rng3, recv_index, idx_str, bi_ord, bi_str, bin_mulS, bin_addS, cmp_ltS, cmp_leS, cmp_gtS, cmp_geS, eqD_str, setSlots_nil, setSlots_cons, asg_many, asg_manyK, slc_lst, slc_tup, wipeD, Out.bind_ok, Out.bind_exc, Out.noX_ok, Out.thenS_ok, Out.thenS_exc, OutS.seq_next, OutS.seq_ret, OutS.seq_exc, OutS.seq_brk, OutS.seq_cont, lift_some, List.set_cons_succ, List.set_cons_zero, List.getElem?_cons_succ, List.getElem?_cons_zero, bin_add, bin_sub, bin_mul, bin_mod, bin_fdiv, bin_pow, bin_addL, bin_addT, bin_mulL, bin_mulT, cmp_eq, cmp_ne, cmp_mem, cmp_nmem, cmp_lt, cmp_le, cmp_gt, cmp_ge, view_int, view_bl, view_lst, view_tup, view_fz, view_tk, view_str, view_dk, view_non, idx_lst, idx_tup, idx_fz, idx_tk, Ev.bi_len, bi_abs, bi_int, bi_intb, bi_tuple, bi_list, bi_all, bi_any, bi_min2, bi_max2, bi_min1, bi_max1, bi_sum, bi_sorted, bi_isinst, recv_append, recv_extend, optI_nil, optI_one, Option.map_some, Option.bind_some, Bool.not_true, Bool.not_false, isNon_non, eqD_int, eqD_bl, decide_true, decide_false, if_true, if_false, Bool.false_eq_true, reduceIte, true_or, or_true, or_self, false_or, or_false, true_and, and_true, false_and, and_false, and_self, nats_len, rng_len, isC, OutS.turn_next, OutS.turn_ret, OutS.turn_cont, OutS.turn_brk, OutS.turn_exc, kt_NoneType_int, kt_NoneType_str, kt_NoneType_list, kt_NoneType_tuple, kt_NoneType_dict, kt_NoneType_bool, kt_bool_int, kt_bool_str, kt_bool_list, kt_bool_tuple, kt_bool_dict, kt_bool_bool, kt_int_int, kt_int_str, kt_int_list, kt_int_tuple, kt_int_dict, kt_int_bool, kt_str_int, kt_str_str, kt_str_list, kt_str_tuple, kt_str_dict, kt_str_bool, kt_list_int, kt_list_str, kt_list_list, kt_list_tuple, kt_list_dict, kt_list_bool, kt_tuple_int, kt_tuple_str, kt_tuple_list, kt_tuple_tuple, kt_tuple_dict, kt_tuple_bool, kt_dict_int, kt_dict_str, kt_dict_list, kt_dict_tuple, kt_dict_dict, kt_dict_bool, ty_non, ty_bl, ty_int, ty_str, ty_tup, ty_tk, ty_lst, ty_fz, isNon_bl, isNon_int, isNon_str, isNon_tupl, isNon_lstl, at0, at1, at2, at3, Int.reduceEq, Int.reduceLT, Int.reduceLE, Int.reduceSub, Int.reduceAdd, Int.reduceMul, List.length_cons, List.length_nil, List.length_append, Nat.zero_add, w_take (k := k + 1) hr, show (0 : Int) < 50 by decide, q1013, z1013, mul313, wid, bi_intb, hz1, hmul, eq_false hk, show memD (wcell rw (a + 1) W :: (e ++ [.lst (ks.map OV.d)])) (.int (((tk rw a : Int) % 50 - 20) * z)) (.ref (e.length + 1)) = some true from hm, OV.d]
    | false => simp only [ss_cons, ss_nil, s_set, s_sets, s_put, s_expr, s_ret, s_retN, s_if, s_for1, s_for2, s_for3, s_for4, s_for5, s_brk, s_cont, s_raise, fb_one, fb_many, fb_manyK, lb_one, lb_many, e_non, e_bool, e_int, e_str, e_var, e_gf, e_tyE, e_bin, e_neg, e_nt, e_and, e_or, e_cmp, e_chain, e_isN, e_notN, e_isB, e_notB, e_call, e_bi, e_listR1, e_listR2, e_idx, e_slc, e_tupE, e_lstE, e_box, e_bm, es_nil, es_cons, et_nil, et_cons, ea_one, ea_cons, eo_one, eo_cons, ei_rng1, ei_rng2, ei_seq, ei_rev, e_lc1, e_lc2, e_lc3, e_lc4, e_lc5, e_bits, e_sset, ei_rng3, recv_index, idx_str, bi_ord, bi_str, bin_mulS, bin_addS, cmp_ltS, cmp_leS, cmp_gtS, cmp_geS, eqD_str, setSlots_nil, setSlots_cons, asg_many, asg_manyK, slc_lst, slc_tup, wipeD, Out.bind_ok, Out.bind_exc, Out.noX_ok, Out.thenS_ok, Out.thenS_exc, OutS.seq_next, OutS.seq_ret, OutS.seq_exc, OutS.seq_brk, OutS.seq_cont, lift_some, List.set_cons_succ, List.set_cons_zero, List.getElem?_cons_succ, List.getElem?_cons_zero, bin_add, bin_sub, bin_mul, bin_mod, bin_fdiv, bin_pow, bin_addL, bin_addT, bin_mulL, bin_mulT, cmp_eq, cmp_ne, cmp_mem, cmp_nmem, cmp_lt, cmp_le, cmp_gt, cmp_ge, view_int, view_bl, view_lst, view_tup, view_fz, view_tk, view_str, view_dk, view_non, idx_lst, idx_tup, idx_fz, idx_tk, Ev.bi_len, bi_abs, bi_int, bi_intb, bi_tuple, bi_list, bi_all, bi_any, bi_min2, bi_max2, bi_min1, bi_max1, bi_sum, bi_sorted, bi_isinst, recv_append, recv_extend, optI_nil, optI_one, Option.map_some, Option.bind_some, Bool.not_true, Bool.not_false, isNon_non, eqD_int, eqD_bl, decide_true, decide_false, if_true, if_false, Bool.false_eq_true, reduceIte, true_or, or_true, or_self, false_or, or_false, true_and, and_true, false_and, and_false, and_self, nats_len, rng_len, isC, OutS.turn_next, OutS.turn_ret, OutS.turn_cont, OutS.turn_brk, OutS.turn_exc, kt_NoneType_int, kt_NoneType_str, kt_NoneType_list, kt_NoneType_tuple, kt_NoneType_dict, kt_NoneType_bool, kt_bool_int, kt_bool_str, kt_bool_list, kt_bool_tuple, kt_bool_dict, kt_bool_bool, kt_int_int, kt_int_str, kt_int_list, kt_int_tuple, kt_int_dict, kt_int_bool, kt_str_int, kt_str_str, kt_str_list, kt_str_tuple, kt_str_dict, kt_str_bool, kt_list_int, kt_list_str, kt_list_list, kt_list_tuple, kt_list_dict, kt_list_bool, kt_tuple_int, kt_tuple_str, kt_tuple_list, kt_tuple_tuple, kt_tuple_dict, kt_tuple_bool, kt_dict_int, kt_dict_str, kt_dict_list, kt_dict_tuple, kt_dict_dict, kt_dict_bool, ty_non, ty_bl, ty_int, ty_str, ty_tup, ty_tk, ty_lst, ty_fz, isNon_bl, isNon_int, isNon_str, isNon_tupl, isNon_lstl, at0, at1, at2, at3, Int.reduceEq, Int.reduceLT, Int.reduceLE, Int.reduceSub, Int.reduceAdd, Int.reduceMul, List.length_cons, List.length_nil, List.length_append, Nat.zero_add, w_take (k := k + 1) hr, show (0 : Int) < 50 by decide, q1013, z1013, mul313, wid, bi_intb, hz1, hmul, eq_false hk, show memD (wcell rw (a + 1) W :: (e ++ [.lst (ks.map OV.d)])) (.int (((tk rw a : Int) % 50 - 20) * z)) (.ref (e.length + 1)) = some false from hm, view_ks, OV.d, show bmD (e.length + 1) .append (.ref (e.length + 1)) [.int (((tk rw a : Int) % 50 - 20) * z)] (wcell rw (a + 1) W :: (e ++ [.lst (ks.map OV.d)])) = _ from hap]
theorem w_cells {stations : Nat} {x0 x1 x2 x3 x4 x5 x6 x7 x8 : Option D} (hr : rw.length = 400) (hW : WdOk W) (hst : stations ≤ 100) (h0 : x0 = some (.ref 0)) (h2 : x2 = some (.int (stations : Int))) : ∀ (cs : List (Str × Str)) (a : Nat), (∀ c ∈ cs, c.2 ∈ six) →
    ∃ (l : List Cell) (a' : Nat), lcGo (lb G (run G (k + 3) fl) fl [x0, x1, x2, x3, x4, x5, x6, x7, x8] [7, 8] (.many [7, 8]) .nil b__law_rows_c1) (cs.map colD) (wcell rw a W :: e) = .ok (l.map Cell.d) (wcell rw a' W :: e) ∧ l.length = cs.length ∧ ∀ (i : Nat) (c : Cell) (q : Str × Str), l[i]? = some c → cs[i]? = some q → suits q.2 c ∧ (mems c).length ≤ 1000
  | [], a, _ => ⟨[], a, rfl, rfl, by simp⟩
  | q :: cs, a, h => by
    subst h0 h2
    obtain ⟨c, a1, e1, hs, hm⟩ := w_a_cell (k := k) (fl := fl) (a := a) (e := e) hr hW (h q (by simp)) hst
    obtain ⟨l, a2, e2, hl, hp⟩ := w_cells (x1 := x1) (x3 := x3) (x4 := x4) (x5 := x5) (x6 := x6) (x7 := x7) (x8 := x8) hr hW hst rfl rfl cs a1 fun x hx => h x (by simp [hx])
    refine ⟨c :: l, a2, ?_, by simp [hl], fun i c' q' g1 g2 => ?_⟩
    · have q1 : lb G (run G (k + 3) fl) fl [some (.ref 0), x1, some (.int (stations : Int)), x3, x4, x5, x6, x7, x8] [7, 8] (.many [7, 8]) .nil b__law_rows_c1 (colD q) (wcell rw a W :: e) = .ok (some c.d) (wcell rw a1 W :: e) := by
        unfold b__law_rows_c1 colD
        simp only [ss_cons, ss_nil, s_set, s_sets, s_put, s_expr, s_ret, s_retN, s_if, s_for1, s_for2, s_for3, s_for4, s_for5, s_brk, s_cont, s_raise, fb_one, fb_many, fb_manyK, lb_one, lb_many, e_non, e_bool, e_int, e_str, e_var, e_gf, e_tyE, e_bin, e_neg, e_nt, e_and, e_or, e_cmp, e_chain, e_isN, e_notN, e_isB, e_notB, e_call, e_bi, e_listR1, e_listR2, e_idx, e_slc, e_tupE, e_lstE, e_box, e_bm, es_nil, es_cons, et_nil, et_cons, ea_one, ea_cons, eo_one, eo_cons, ei_rng1, ei_rng2, ei_seq, ei_rev, e_lc1, e_lc2, e_lc3, e_lc4, e_lc5, e_bits, e_sset, ei_rng3, recv_index, idx_str, bi_ord, bi_str, bin_mulS, bin_addS, cmp_ltS, cmp_leS, cmp_gtS, cmp_geS, eqD_str, setSlots_nil, setSlots_cons, asg_many, asg_manyK, slc_lst, slc_tup, wipeD, Out.bind_ok, Out.bind_exc, Out.noX_ok, Out.thenS_ok, Out.thenS_exc, OutS.seq_next, OutS.seq_ret, OutS.seq_exc, OutS.seq_brk, OutS.seq_cont, lift_some, List.set_cons_succ, List.set_cons_zero, List.getElem?_cons_succ, List.getElem?_cons_zero, bin_add, bin_sub, bin_mul, bin_mod, bin_fdiv, bin_pow, bin_addL, bin_addT, bin_mulL, bin_mulT, cmp_eq, cmp_ne, cmp_mem, cmp_nmem, cmp_lt, cmp_le, cmp_gt, cmp_ge, view_int, view_bl, view_lst, view_tup, view_fz, view_tk, view_str, view_dk, view_non, idx_lst, idx_tup, idx_fz, idx_tk, Ev.bi_len, bi_abs, bi_int, bi_intb, bi_tuple, bi_list, bi_all, bi_any, bi_min2, bi_max2, bi_min1, bi_max1, bi_sum, bi_sorted, bi_isinst, recv_append, recv_extend, optI_nil, optI_one, Option.map_some, Option.bind_some, Bool.not_true, Bool.not_false, isNon_non, eqD_int, eqD_bl, decide_true, decide_false, if_true, if_false, Bool.false_eq_true, reduceIte, true_or, or_true, or_self, false_or, or_false, true_and, and_true, false_and, and_false, and_self, nats_len, rng_len, isC, OutS.turn_next, OutS.turn_ret, OutS.turn_cont, OutS.turn_brk, OutS.turn_exc, kt_NoneType_int, kt_NoneType_str, kt_NoneType_list, kt_NoneType_tuple, kt_NoneType_dict, kt_NoneType_bool, kt_bool_int, kt_bool_str, kt_bool_list, kt_bool_tuple, kt_bool_dict, kt_bool_bool, kt_int_int, kt_int_str, kt_int_list, kt_int_tuple, kt_int_dict, kt_int_bool, kt_str_int, kt_str_str, kt_str_list, kt_str_tuple, kt_str_dict, kt_str_bool, kt_list_int, kt_list_str, kt_list_list, kt_list_tuple, kt_list_dict, kt_list_bool, kt_tuple_int, kt_tuple_str, kt_tuple_list, kt_tuple_tuple, kt_tuple_dict, kt_tuple_bool, kt_dict_int, kt_dict_str, kt_dict_list, kt_dict_tuple, kt_dict_dict, kt_dict_bool, ty_non, ty_bl, ty_int, ty_str, ty_tup, ty_tk, ty_lst, ty_fz, isNon_bl, isNon_int, isNon_str, isNon_tupl, isNon_lstl, at0, at1, at2, at3, Int.reduceEq, Int.reduceLT, Int.reduceLE, Int.reduceSub, Int.reduceAdd, Int.reduceMul, List.length_cons, List.length_nil, List.length_append, Nat.zero_add, e1]
      rw [List.map_cons, lcGo, q1, Out.bind_ok, e2, Out.bind_ok]
      rfl
    · cases i with
      | zero =>
        simp at g1 g2
        subst g1 g2
        exact ⟨hs, hm⟩
      | succ i => exact hp i c' q' (by simpa using g1) (by simpa using g2)
theorem w_rows_draw {stations : Nat} {t : Tb} {x3 x4 x5 x6 x7 x8 : Option D} (hr : rw.length = 400) (hW : WdOk W) (hst : stations ≤ 100) (hf : t.cols.length ≤ 100) (hc : ∀ c ∈ t.cols, c.2 ∈ six) : ∀ (ks : List OV) (a : Nat), (∀ o ∈ ks, o.k = kk t) →
    ∃ (l : List Row) (a' : Nat), lcGo (lb G (run G (k + 3) fl) fl [some (.ref 0), some (tbD t), some (.int (stations : Int)), x3, x4, x5, x6, x7, x8] [6] (.one 6) .nil b__law_rows_c2) (ks.map OV.d) (wcell rw a W :: e) = .ok (l.map Row.d) (wcell rw a' W :: e) ∧ l.map Row.key = ks ∧ ∀ r ∈ l, RowOk t r
  | [], a, _ => ⟨[], a, rfl, rfl, by simp⟩
  | o :: ks, a, h => by
    have hz : SZ = 16777216 := rfl
    obtain ⟨cs, a1, e1, hl, hp⟩ := w_cells (k := k) (fl := fl) (stations := stations) (e := e) (x0 := some (.ref 0)) (x1 := some (tbD t)) (x2 := some (.int (stations : Int))) (x3 := x3) (x4 := x4) (x5 := x5) (x6 := some o.d) (x7 := x7) (x8 := x8) hr hW hst rfl rfl t.cols a hc
    obtain ⟨l, a2, e2, hk, hok⟩ := w_rows_draw (x3 := x3) (x4 := x4) (x5 := x5) (x6 := x6) (x7 := x7) (x8 := x8) hr hW hst hf hc ks a1 fun z hz => h z (by simp [hz])
    refine ⟨⟨o, cs⟩ :: l, a2, ?_, by simp [hk], fun r hm => ?_⟩
    · have q1 : lb G (run G (k + 3) fl) fl [some (.ref 0), some (tbD t), some (.int (stations : Int)), x3, x4, x5, x6, x7, x8] [6] (.one 6) .nil b__law_rows_c2 o.d (wcell rw a W :: e) = .ok (some (Row.d ⟨o, cs⟩)) (wcell rw a1 W :: e) := by
        unfold b__law_rows_c2 Row.d
        unfold tbD colsD at e1 ⊢
        simp only [ss_cons, ss_nil, s_set, s_sets, s_put, s_expr, s_ret, s_retN, s_if, s_for1, s_for2, s_for3, s_for4, s_for5, s_brk, s_cont, s_raise, fb_one, fb_many, fb_manyK, lb_one, lb_many, e_non, e_bool, e_int, e_str, e_var, e_gf, e_tyE, e_bin, e_neg, e_nt, e_and, e_or, e_cmp, e_chain, e_isN, e_notN, e_isB, e_notB, e_call, e_bi, e_listR1, e_listR2, e_idx, e_slc, e_tupE, e_lstE, e_box, e_bm, es_nil, es_cons, et_nil, et_cons, ea_one, ea_cons, eo_one, eo_cons, ei_rng1, ei_rng2, ei_seq, ei_rev, e_lc1, e_lc2, e_lc3, e_lc4, e_lc5, e_bits, e_sset, ei_rng3, recv_index, idx_str, bi_ord, bi_str, bin_mulS, bin_addS, cmp_ltS, cmp_leS, cmp_gtS, cmp_geS, eqD_str, setSlots_nil, setSlots_cons, asg_many, asg_manyK, slc_lst, slc_tup, wipeD, Out.bind_ok, Out.bind_exc, Out.noX_ok, Out.thenS_ok, Out.thenS_exc, OutS.seq_next, OutS.seq_ret, OutS.seq_exc, OutS.seq_brk, OutS.seq_cont, lift_some, List.set_cons_succ, List.set_cons_zero, List.getElem?_cons_succ, List.getElem?_cons_zero, bin_add, bin_sub, bin_mul, bin_mod, bin_fdiv, bin_pow, bin_addL, bin_addT, bin_mulL, bin_mulT, cmp_eq, cmp_ne, cmp_mem, cmp_nmem, cmp_lt, cmp_le, cmp_gt, cmp_ge, view_int, view_bl, view_lst, view_tup, view_fz, view_tk, view_str, view_dk, view_non, idx_lst, idx_tup, idx_fz, idx_tk, Ev.bi_len, bi_abs, bi_int, bi_intb, bi_tuple, bi_list, bi_all, bi_any, bi_min2, bi_max2, bi_min1, bi_max1, bi_sum, bi_sorted, bi_isinst, recv_append, recv_extend, optI_nil, optI_one, Option.map_some, Option.bind_some, Bool.not_true, Bool.not_false, isNon_non, eqD_int, eqD_bl, decide_true, decide_false, if_true, if_false, Bool.false_eq_true, reduceIte, true_or, or_true, or_self, false_or, or_false, true_and, and_true, false_and, and_false, and_self, nats_len, rng_len, isC, OutS.turn_next, OutS.turn_ret, OutS.turn_cont, OutS.turn_brk, OutS.turn_exc, kt_NoneType_int, kt_NoneType_str, kt_NoneType_list, kt_NoneType_tuple, kt_NoneType_dict, kt_NoneType_bool, kt_bool_int, kt_bool_str, kt_bool_list, kt_bool_tuple, kt_bool_dict, kt_bool_bool, kt_int_int, kt_int_str, kt_int_list, kt_int_tuple, kt_int_dict, kt_int_bool, kt_str_int, kt_str_str, kt_str_list, kt_str_tuple, kt_str_dict, kt_str_bool, kt_list_int, kt_list_str, kt_list_list, kt_list_tuple, kt_list_dict, kt_list_bool, kt_tuple_int, kt_tuple_str, kt_tuple_list, kt_tuple_tuple, kt_tuple_dict, kt_tuple_bool, kt_dict_int, kt_dict_str, kt_dict_list, kt_dict_tuple, kt_dict_dict, kt_dict_bool, ty_non, ty_bl, ty_int, ty_str, ty_tup, ty_tk, ty_lst, ty_fz, isNon_bl, isNon_int, isNon_str, isNon_tupl, isNon_lstl, at0, at1, at2, at3, Int.reduceEq, Int.reduceLT, Int.reduceLE, Int.reduceSub, Int.reduceAdd, Int.reduceMul, List.length_cons, List.length_nil, List.length_append, Nat.zero_add, List.length_map, show t.cols.length ≤ SZ by omega, e1]
      rw [List.map_cons, lcGo, q1, Out.bind_ok, e2, Out.bind_ok]
      rfl
    · rcases List.mem_cons.mp hm with rfl | hm
      · exact ⟨h o (by simp), hl, hp⟩
      · exact hok r hm
theorem r_law_rowsW {a stations most : Nat} {t : Tb} (hr : rw.length = 400) (hW : WdOk W) (hst : stations ≤ 100) (hm : most ≤ 100) (hf : t.cols.length ≤ 100) (hc : ∀ c ∈ t.cols, c.2 ∈ six) :
    ∃ (l : List Row) (a' : Nat), run G (k + 4) fl i__law_rows [.ref 0, tbD t, .int (stations : Int), .int (most : Int)] (wcell rw a W :: e) = .ok (.tup (l.map Row.d)) (wcell rw a' W :: e) ∧ l.length ≤ most ∧ (∀ r ∈ l, RowOk t r) ∧ (l.map Row.key).Pairwise (fun x y => ltO y x = false) := by
  have hz : SZ = 16777216 := rfl
  obtain ⟨m, hm1⟩ : ∃ m : Nat, tk rw a % (most + 1) = m := ⟨_, rfl⟩
  have hml : m ≤ most := by have := Nat.mod_lt (tk rw a) (show 0 < most + 1 by omega); omega
  have hmi : (tk rw a : Int) % ((most : Int) + 1) = (m : Int) := by rw [← hm1]; simp
  have h0 : (0 : Int) < (most : Int) + 1 := by omega
  have sm : small62 (m : Int) = true := small62_n (by omega)
  have lm : ((m : Int) - 0).toNat ≤ SZ := by omega
  have key := forGo_inv (b := fb G (run G (k + 3) (e.length + 1)) (e.length + 1) (.one 5) b__law_rows_l1) (xs := rng 0 (m : Int)) (fun i ρ st => ∃ y5 y6 a' ks, ρ = [some (.ref 0), some (tbD t), some (.int (stations : Int)), some (.int (most : Int)), some (.ref (e.length + 1)), y5, y6, none, none] ∧ st = (wcell rw a' W :: (e ++ [.lst (ks.map OV.d)])) ∧ ks.length ≤ i ∧ ∀ o ∈ ks, o.k = kk t)
    (ρ := [some (.ref 0), some (tbD t), some (.int (stations : Int)), some (.int (most : Int)), some (.ref (e.length + 1)), none, none, none, none]) (st := (wcell rw (a + 1) W :: (e ++ [.lst []]))) ⟨none, none, a + 1, [], rfl, rfl, Nat.le_refl _, by simp⟩ (by
      intro i x hx ρ st ⟨y5, y6, a', ks, q1, q2, q3, q4⟩
      have hi := (rng_get hx).1
      subst q1 q2
      obtain ⟨a'', ks', z6, f1, f2, f3⟩ := w_rows_l1 (k := k + 1) (a := a') (e := e) (t := t) (ks := ks) (x2 := some (.int (stations : Int))) (x3 := some (.int (most : Int))) (x5 := some x) (x6 := y6) (x7 := none) (x8 := none) hr hW q4 (by omega)
      refine ⟨_, _, .inl ?_, some x, z6, a'', ks', rfl, rfl, by omega, f2⟩
      rw [fb_one]
      simp only [List.set_cons_succ, List.set_cons_zero]
      exact f1)
  obtain ⟨ρ, st, ef, y5, y6, a1, ks, q1, q2, q3, q4⟩ := key
  subst q1 q2
  rw [rng_len] at q3
  obtain ⟨ss, s1, s2, s3⟩ := sort_O q4
  have hsl := s2.length_eq
  obtain ⟨l, a2, e2, hk, hok⟩ := w_rows_draw (k := k) (fl := e.length + 1) (stations := stations) (e := e ++ [.lst (ks.map OV.d)]) (t := t) (x3 := some (.int (most : Int))) (x4 := some (.ref (e.length + 1))) (x5 := y5) (x6 := y6) (x7 := none) (x8 := none) hr hW hst hf hc ss a1 fun o ho => q4 o (s2.subset ho)
  have hll : l.length = ks.length := by rw [← List.length_map (f := Row.key) (as := l), hk, hsl]
  refine ⟨l, a2, ?_, by omega, hok, by rw [hk]; exact s3⟩
  have hs := s1 (wcell rw a1 W :: (e ++ [.lst (ks.map OV.d)])) (.ref (e.length + 1)) view_ks
  have q := run_popS (G := G) (k := k + 3) (fl := fl) (F := f__law_rows) (f := i__law_rows) (ds := [.ref 0, tbD t, .int (stations : Int), .int (most : Int)]) (st := wcell rw a W :: e) (st' := (wcell rw a2 W :: (e ++ [.lst (ks.map OV.d)]))) (d := .tup (l.map Row.d)) (d' := .tup (l.map Row.d)) rfl rfl rfl (by
    show evSs G (run G (k + 3) (e.length + 1)) (e.length + 1) b__law_rows [some (.ref 0), some (tbD t), some (.int (stations : Int)), some (.int (most : Int)), none, none, none, none, none] (wcell rw a W :: e) = _
    unfold b__law_rows
    simp only [ss_cons, ss_nil, s_set, s_sets, s_put, s_expr, s_ret, s_retN, s_if, s_for1, s_for2, s_for3, s_for4, s_for5, s_brk, s_cont, s_raise, fb_one, fb_many, fb_manyK, lb_one, lb_many, e_non, e_bool, e_int, e_str, e_var, e_gf, e_tyE, e_bin, e_neg, e_nt, e_and, e_or, e_cmp, e_chain, e_isN, e_notN, e_isB, e_notB, e_call, e_bi, e_listR1, e_listR2, e_idx, e_slc, e_tupE, e_lstE, e_box, e_bm, es_nil, es_cons, et_nil, et_cons, ea_one, ea_cons, eo_one, eo_cons, ei_rng1, ei_rng2, ei_seq, ei_rev, e_lc1, e_lc2, e_lc3, e_lc4, e_lc5, e_bits, e_sset, ei_rng3, recv_index, idx_str, bi_ord, bi_str, bin_mulS, bin_addS, cmp_ltS, cmp_leS, cmp_gtS, cmp_geS, eqD_str, setSlots_nil, setSlots_cons, asg_many, asg_manyK, slc_lst, slc_tup, wipeD, Out.bind_ok, Out.bind_exc, Out.noX_ok, Out.thenS_ok, Out.thenS_exc, OutS.seq_next, OutS.seq_ret, OutS.seq_exc, OutS.seq_brk, OutS.seq_cont, lift_some, List.set_cons_succ, List.set_cons_zero, List.getElem?_cons_succ, List.getElem?_cons_zero, bin_add, bin_sub, bin_mul, bin_mod, bin_fdiv, bin_pow, bin_addL, bin_addT, bin_mulL, bin_mulT, cmp_eq, cmp_ne, cmp_mem, cmp_nmem, cmp_lt, cmp_le, cmp_gt, cmp_ge, view_int, view_bl, view_lst, view_tup, view_fz, view_tk, view_str, view_dk, view_non, idx_lst, idx_tup, idx_fz, idx_tk, Ev.bi_len, bi_abs, bi_int, bi_intb, bi_tuple, bi_list, bi_all, bi_any, bi_min2, bi_max2, bi_min1, bi_max1, bi_sum, bi_isinst, recv_append, recv_extend, optI_nil, optI_one, Option.map_some, Option.bind_some, Bool.not_true, Bool.not_false, isNon_non, eqD_int, eqD_bl, decide_true, decide_false, if_true, if_false, Bool.false_eq_true, reduceIte, true_or, or_true, or_self, false_or, or_false, true_and, and_true, false_and, and_false, and_self, nats_len, rng_len, isC, OutS.turn_next, OutS.turn_ret, OutS.turn_cont, OutS.turn_brk, OutS.turn_exc, kt_NoneType_int, kt_NoneType_str, kt_NoneType_list, kt_NoneType_tuple, kt_NoneType_dict, kt_NoneType_bool, kt_bool_int, kt_bool_str, kt_bool_list, kt_bool_tuple, kt_bool_dict, kt_bool_bool, kt_int_int, kt_int_str, kt_int_list, kt_int_tuple, kt_int_dict, kt_int_bool, kt_str_int, kt_str_str, kt_str_list, kt_str_tuple, kt_str_dict, kt_str_bool, kt_list_int, kt_list_str, kt_list_list, kt_list_tuple, kt_list_dict, kt_list_bool, kt_tuple_int, kt_tuple_str, kt_tuple_list, kt_tuple_tuple, kt_tuple_dict, kt_tuple_bool, kt_dict_int, kt_dict_str, kt_dict_list, kt_dict_tuple, kt_dict_dict, kt_dict_bool, ty_non, ty_bl, ty_int, ty_str, ty_tup, ty_tk, ty_lst, ty_fz, isNon_bl, isNon_int, isNon_str, isNon_tupl, isNon_lstl, at0, at1, at2, at3, Int.reduceEq, Int.reduceLT, Int.reduceLE, Int.reduceSub, Int.reduceAdd, Int.reduceMul, List.length_cons, List.length_nil, List.length_append, Nat.zero_add, w_take (k := k + 2) hr, h0, hmi, sm, lm, List.cons_append, List.nil_append, ef, hs, List.length_map, show ss.length ≤ SZ by omega, e2]) (by
    exact if_pos (show D.lo 0 (.tup (l.map Row.d)) = true from lo_rows l))
  rw [q]
  simp
end
theorem key_ends {rows : List Row} (hp : (rows.map Row.key).Pairwise (fun x y => ltO y x = false)) {r0 r1 : Row} (h0 : rows[0]? = some r0) (h1 : rows[rows.length - 1]? = some r1) : ∀ r ∈ rows, ltO r.key r0.key = false ∧ ltO r1.key r.key = false := by
  rw [List.pairwise_map, List.pairwise_iff_getElem] at hp
  intro r hm
  obtain ⟨i, hi, rfl⟩ := List.getElem_of_mem hm
  obtain ⟨g0, rfl⟩ := List.getElem?_eq_some_iff.mp h0
  obtain ⟨g1, rfl⟩ := List.getElem?_eq_some_iff.mp h1
  refine ⟨?_, ?_⟩
  · by_cases z : i = 0
    · subst z; exact ltO_irr _
    · exact hp 0 i g0 hi (by omega)
  · by_cases z : i = rows.length - 1
    · subst z; exact ltO_irr _
    · exact hp i _ hi g1 (by omega)
theorem okNs_map {α : Type} {n : Nat} {f : α → D} (h : ∀ x, okN n (f x) = true) : ∀ l : List α, okNs n (l.map f) = true
  | [] => by simp [okNs]
  | x :: r => by rw [List.map_cons, okNs, h x, okNs_map h r]; rfl
theorem mem_bl {st : Sto} {b : Bool} {bs : List Bool} : memD st (.bl b) (.lst (bs.map D.bl)) = some (decide (b ∈ bs)) := by
  unfold memD
  rw [view_lst]
  dsimp only
  rw [if_pos (by rw [okNs_map (fun x => by simp [okN])]; simp [okN])]
  congr 1
  induction bs with
  | nil => rfl
  | cons x r ih => rw [List.map_cons, List.any_cons, ih]; cases x <;> cases b <;> simp [eqv]
theorem okCell {n : Nat} (c : Cell) : okN (n + 1) c.d = true := by
  cases c with
  | v o => cases o <;> simp [Cell.d, OV.d, okN]
  | lot ws =>
    show okN (n + 1) (.tup (ws.map D.str)) = true
    rw [okN]; exact okNs_map (fun x => by simp [okN]) ws
  | sh ns =>
    show okN (n + 1) (.tup (ns.map D.int)) = true
    rw [okN]; exact okNs_map (fun x => by simp [okN]) ns
theorem okRow {n : Nat} (r : Row) : okN (n + 3) r.d = true := by
  have h : okN (n + 2) (.tup (r.cells.map Cell.d)) = true := by
    rw [okN]; exact okNs_map (fun c => okCell c) r.cells
  have h2 : okN (n + 2) r.key.d = true := by cases r.key <;> simp [OV.d, okN]
  show okN (n + 3) (.tup [r.key.d, .tup (r.cells.map Cell.d)]) = true
  rw [okN, okNs, okNs, okNs, h, h2]; rfl
theorem lc_map {α : Type} {f : D → Sto → Out (Option D)} {st : Sto} {g h : α → D} : ∀ (l : List α), (∀ x ∈ l, f (g x) st = .ok (some (h x)) st) → lcGo f (l.map g) st = .ok (l.map h) st
  | [], _ => rfl
  | x :: l, H => by
    rw [List.map_cons, lcGo, H x (by simp), Out.bind_ok, lc_map l (fun y hy => H y (by simp [hy]))]; rfl
/-! ### parts -/
theorem rngL {n L : Nat} (h : n ≤ 10000000) (h1 : 1 ≤ L) (h2 : L ≤ 1000) : Builtin.Range.small 0 (n : Int) (L : Int) = true ∧ rngS 0 (L : Int) (Builtin.Range.rangeSize 0 (n : Int) (L : Int)).toNat = (List.range' 0 ((n + (L - 1)) / L)).map fun j : Nat => D.int ((j * L : Nat) : Int) := by
  have hs : (Builtin.Range.rangeSize 0 (n : Int) (L : Int)) = (((n + (L - 1)) / L : Nat) : Int) := by
    unfold Builtin.Range.rangeSize
    rw [if_pos (by omega)]
    by_cases h0 : n = 0
    · subst h0
      rw [if_neg (by omega), Nat.zero_add, Nat.div_eq_of_lt (by omega)]
      rfl
    · rw [if_pos (by omega), show n + (L - 1) = (n - 1) + L by omega, Nat.add_div_right _ (by omega)]
      rw [show (n : Int) - 0 - 1 = ((n - 1 : Nat) : Int) by omega]
      simp
  have hb : (n + (L - 1)) / L ≤ n + L := Nat.le_trans (Nat.div_le_self _ _) (by omega)
  obtain ⟨q, hq⟩ : ∃ q, (n + (L - 1)) / L = q := ⟨_, rfl⟩
  rw [hq] at hs hb ⊢
  refine ⟨?_, ?_⟩
  · unfold Builtin.Range.small
    rw [hs]
    unfold Builtin.Range.rangeFitsLong
    simp only [Bool.and_eq_true, Bool.or_eq_true, decide_eq_true_eq]
    refine ⟨⟨⟨⟨?_, ?_⟩, ?_⟩, ?_⟩, .inr ?_⟩
    · omega
    · omega
    · omega
    · omega
    · rw [if_pos (by omega)]
      simp only [Bool.and_eq_true, decide_eq_true_eq]
      omega
  · rw [hs, Int.toNat_natCast]
    unfold rngS
    rw [List.range_eq_range']
    congr 1
    funext j
    simp
def pieces (L : Nat) (rows : List Row) : List (List Row) := (List.range' 0 ((rows.length + (L - 1)) / L)).map fun j => (rows.drop (j * L)).take L
theorem cutT {l : List Row} {a L : Nat} : cutD (l.map Row.d) (some (a : Int)) (some ((a + L : Nat) : Int)) = (((l.drop a).take L)).map Row.d := by
  unfold cutD
  rw [HT.sIx_nat, HT.sIx_nat, List.length_map]
  by_cases ha : a ≤ l.length
  · rw [Nat.min_eq_left ha]
    by_cases hb : a + L ≤ l.length
    · rw [Nat.min_eq_left hb, show a + L - a = L by omega, List.map_take, List.map_drop]
    · rw [Nat.min_eq_right (by omega), List.map_take, List.map_drop, List.take_of_length_le (by simp), List.take_of_length_le (by simp; omega)]
  · rw [Nat.min_eq_right (by omega), List.drop_of_length_le (by simp; omega), List.drop_of_length_le (by omega)]
    simp
theorem rows_lo2 : ∀ l : List (List Row), D.los 0 (l.map fun p => D.tup (p.map Row.d)) = true
  | [] => rfl
  | p :: l => by
    show (D.los 0 (p.map Row.d) && D.los 0 (l.map fun p => D.tup (p.map Row.d))) = true
    rw [lo_rows, rows_lo2 l]; rfl
theorem r_parts {k fl L : Nat} {st : Sto} {rows : List Row} (h1 : 1 ≤ L) (h2 : L ≤ 1000) (hl : rows.length ≤ 100000) : run G (k + 1) fl i_parts [.tup (rows.map Row.d), .int (L : Int)] st = .ok (.tup ((pieces L rows).map fun p => .tup (p.map Row.d))) st := by
  have hz : SZ = 16777216 := rfl
  obtain ⟨s1, s2⟩ := rngL (n := rows.length) (by omega) h1 h2
  have hnum : (rows.length + (L - 1)) / L ≤ rows.length + L := Nat.le_trans (Nat.div_le_self _ _) (by omega)
  have hei : evI G (run G k st.length) st.length [some (.tup (rows.map Row.d)), some (.int (L : Int)), none] (.rng3 (.int 0) (.bi .len (.cons (.var 0) .nil)) (.var 1)) st = .ok ((List.range' 0 ((rows.length + (L - 1)) / L)).map fun j : Nat => D.int ((j * L : Nat) : Int)) st := by
    rw [← s2, ei_rng3, e_int, Out.bind_ok]
    have hlen : evE G (run G k st.length) st.length [some (.tup (rows.map Row.d)), some (.int (L : Int)), none] (.bi .len (.cons (.var 0) .nil)) st = .ok (.int (rows.length : Int)) st := by simp only [ss_cons, ss_nil, s_set, s_sets, s_put, s_expr, s_ret, s_retN, s_if, s_for1, s_for2, s_for3, s_for4, s_for5, s_brk, s_cont, s_raise, fb_one, fb_many, fb_manyK, lb_one, lb_many, e_non, e_bool, e_int, e_str, e_var, e_gf, e_tyE, e_bin, e_neg, e_nt, e_and, e_or, e_cmp, e_chain, e_isN, e_notN, e_isB, e_notB, e_call, e_bi, e_listR1, e_listR2, e_idx, e_slc, e_tupE, e_lstE, e_box, e_bm, es_nil, es_cons, et_nil, et_cons, ea_one, ea_cons, eo_one, eo_cons, ei_rng1, ei_rng2, ei_seq, ei_rev, e_lc1, e_lc2, e_lc3, e_lc4, e_lc5, e_bits, e_sset, ei_rng3, recv_index, idx_str, bi_ord, bi_str, bin_mulS, bin_addS, cmp_ltS, cmp_leS, cmp_gtS, cmp_geS, eqD_str, setSlots_nil, setSlots_cons, asg_many, asg_manyK, slc_lst, slc_tup, wipeD, Out.bind_ok, Out.bind_exc, Out.noX_ok, Out.thenS_ok, Out.thenS_exc, OutS.seq_next, OutS.seq_ret, OutS.seq_exc, OutS.seq_brk, OutS.seq_cont, lift_some, List.set_cons_succ, List.set_cons_zero, List.getElem?_cons_succ, List.getElem?_cons_zero, bin_add, bin_sub, bin_mul, bin_mod, bin_fdiv, bin_pow, bin_addL, bin_addT, bin_mulL, bin_mulT, cmp_eq, cmp_ne, cmp_mem, cmp_nmem, cmp_lt, cmp_le, cmp_gt, cmp_ge, view_int, view_bl, view_lst, view_tup, view_fz, view_tk, view_str, view_dk, view_non, idx_lst, idx_tup, idx_fz, idx_tk, Ev.bi_len, bi_abs, bi_int, bi_intb, bi_tuple, bi_list, bi_all, bi_any, bi_min2, bi_max2, bi_min1, bi_max1, bi_sum, bi_sorted, bi_isinst, recv_append, recv_extend, optI_nil, optI_one, Option.map_some, Option.bind_some, Bool.not_true, Bool.not_false, isNon_non, eqD_int, eqD_bl, decide_true, decide_false, if_true, if_false, Bool.false_eq_true, reduceIte, true_or, or_true, or_self, false_or, or_false, true_and, and_true, false_and, and_false, and_self, nats_len, rng_len, isC, OutS.turn_next, OutS.turn_ret, OutS.turn_cont, OutS.turn_brk, OutS.turn_exc, kt_NoneType_int, kt_NoneType_str, kt_NoneType_list, kt_NoneType_tuple, kt_NoneType_dict, kt_NoneType_bool, kt_bool_int, kt_bool_str, kt_bool_list, kt_bool_tuple, kt_bool_dict, kt_bool_bool, kt_int_int, kt_int_str, kt_int_list, kt_int_tuple, kt_int_dict, kt_int_bool, kt_str_int, kt_str_str, kt_str_list, kt_str_tuple, kt_str_dict, kt_str_bool, kt_list_int, kt_list_str, kt_list_list, kt_list_tuple, kt_list_dict, kt_list_bool, kt_tuple_int, kt_tuple_str, kt_tuple_list, kt_tuple_tuple, kt_tuple_dict, kt_tuple_bool, kt_dict_int, kt_dict_str, kt_dict_list, kt_dict_tuple, kt_dict_dict, kt_dict_bool, ty_non, ty_bl, ty_int, ty_str, ty_tup, ty_tk, ty_lst, ty_fz, isNon_bl, isNon_int, isNon_str, isNon_tupl, isNon_lstl, at0, at1, at2, at3, Int.reduceEq, Int.reduceLT, Int.reduceLE, Int.reduceSub, Int.reduceAdd, Int.reduceMul, List.length_cons, List.length_nil, List.length_append, Nat.zero_add, List.length_map]
    rw [hlen, Out.bind_ok, e_var]
    show (if 0 < (L : Int) ∧ (L : Int) < 1073741824 ∧ Builtin.Range.small 0 (rows.length : Int) (L : Int) = true then Out.ok _ st else .bad) = _
    rw [if_pos ⟨by omega, by omega, s1⟩]
  have hlc : lcGo (lb G (run G k st.length) st.length [some (.tup (rows.map Row.d)), some (.int (L : Int)), none] [2] (.one 2) .nil b_parts_c1) ((List.range' 0 ((rows.length + (L - 1)) / L)).map fun j : Nat => D.int ((j * L : Nat) : Int)) st = .ok ((pieces L rows).map fun p => .tup (p.map Row.d)) st := by
    unfold pieces
    rw [List.map_map]
    refine lc_map _ fun j _ => ?_
    have e : ((j * L : Nat) : Int) + (L : Int) = ((j * L + L : Nat) : Int) := by simp
    unfold b_parts_c1
    simp only [ss_cons, ss_nil, s_set, s_sets, s_put, s_expr, s_ret, s_retN, s_if, s_for1, s_for2, s_for3, s_for4, s_for5, s_brk, s_cont, s_raise, fb_one, fb_many, fb_manyK, lb_one, lb_many, e_non, e_bool, e_int, e_str, e_var, e_gf, e_tyE, e_bin, e_neg, e_nt, e_and, e_or, e_cmp, e_chain, e_isN, e_notN, e_isB, e_notB, e_call, e_bi, e_listR1, e_listR2, e_idx, e_slc, e_tupE, e_lstE, e_box, e_bm, es_nil, es_cons, et_nil, et_cons, ea_one, ea_cons, eo_one, eo_cons, ei_rng1, ei_rng2, ei_seq, ei_rev, e_lc1, e_lc2, e_lc3, e_lc4, e_lc5, e_bits, e_sset, ei_rng3, recv_index, idx_str, bi_ord, bi_str, bin_mulS, bin_addS, cmp_ltS, cmp_leS, cmp_gtS, cmp_geS, eqD_str, setSlots_nil, setSlots_cons, asg_many, asg_manyK, slc_lst, slc_tup, wipeD, Out.bind_ok, Out.bind_exc, Out.noX_ok, Out.thenS_ok, Out.thenS_exc, OutS.seq_next, OutS.seq_ret, OutS.seq_exc, OutS.seq_brk, OutS.seq_cont, lift_some, List.set_cons_succ, List.set_cons_zero, List.getElem?_cons_succ, List.getElem?_cons_zero, bin_add, bin_sub, bin_mul, bin_mod, bin_fdiv, bin_pow, bin_addL, bin_addT, bin_mulL, bin_mulT, cmp_eq, cmp_ne, cmp_mem, cmp_nmem, cmp_lt, cmp_le, cmp_gt, cmp_ge, view_int, view_bl, view_lst, view_tup, view_fz, view_tk, view_str, view_dk, view_non, idx_lst, idx_tup, idx_fz, idx_tk, Ev.bi_len, bi_abs, bi_int, bi_intb, bi_tuple, bi_list, bi_all, bi_any, bi_min2, bi_max2, bi_min1, bi_max1, bi_sum, bi_sorted, bi_isinst, recv_append, recv_extend, optI_nil, optI_one, Option.map_some, Option.bind_some, Bool.not_true, Bool.not_false, isNon_non, eqD_int, eqD_bl, decide_true, decide_false, if_true, if_false, Bool.false_eq_true, reduceIte, true_or, or_true, or_self, false_or, or_false, true_and, and_true, false_and, and_false, and_self, nats_len, rng_len, isC, OutS.turn_next, OutS.turn_ret, OutS.turn_cont, OutS.turn_brk, OutS.turn_exc, kt_NoneType_int, kt_NoneType_str, kt_NoneType_list, kt_NoneType_tuple, kt_NoneType_dict, kt_NoneType_bool, kt_bool_int, kt_bool_str, kt_bool_list, kt_bool_tuple, kt_bool_dict, kt_bool_bool, kt_int_int, kt_int_str, kt_int_list, kt_int_tuple, kt_int_dict, kt_int_bool, kt_str_int, kt_str_str, kt_str_list, kt_str_tuple, kt_str_dict, kt_str_bool, kt_list_int, kt_list_str, kt_list_list, kt_list_tuple, kt_list_dict, kt_list_bool, kt_tuple_int, kt_tuple_str, kt_tuple_list, kt_tuple_tuple, kt_tuple_dict, kt_tuple_bool, kt_dict_int, kt_dict_str, kt_dict_list, kt_dict_tuple, kt_dict_dict, kt_dict_bool, ty_non, ty_bl, ty_int, ty_str, ty_tup, ty_tk, ty_lst, ty_fz, isNon_bl, isNon_int, isNon_str, isNon_tupl, isNon_lstl, at0, at1, at2, at3, Int.reduceEq, Int.reduceLT, Int.reduceLE, Int.reduceSub, Int.reduceAdd, Int.reduceMul, List.length_cons, List.length_nil, List.length_append, Nat.zero_add, e, cutT]
    rfl
  refine run_v (F := f_parts) rfl rfl rfl (by exact if_pos (rows_lo2 _)) ?_
  show evSs G (run G k st.length) _ b_parts [some (.tup (rows.map Row.d)), some (.int (L : Int)), none] st = _
  unfold b_parts
  simp only [ss_cons, ss_nil, s_set, s_sets, s_put, s_expr, s_ret, s_retN, s_if, s_for1, s_for2, s_for3, s_for4, s_for5, s_brk, s_cont, s_raise, fb_one, fb_many, fb_manyK, lb_one, lb_many, e_non, e_bool, e_int, e_str, e_var, e_gf, e_tyE, e_bin, e_neg, e_nt, e_and, e_or, e_cmp, e_chain, e_isN, e_notN, e_isB, e_notB, e_call, e_bi, e_listR1, e_listR2, e_idx, e_slc, e_tupE, e_lstE, e_box, e_bm, es_nil, es_cons, et_nil, et_cons, ea_one, ea_cons, eo_one, eo_cons, ei_rng1, ei_rng2, ei_seq, ei_rev, e_lc1, e_lc2, e_lc3, e_lc4, e_lc5, e_bits, e_sset, recv_index, idx_str, bi_ord, bi_str, bin_mulS, bin_addS, cmp_ltS, cmp_leS, cmp_gtS, cmp_geS, eqD_str, setSlots_nil, setSlots_cons, asg_many, asg_manyK, slc_lst, slc_tup, wipeD, Out.bind_ok, Out.bind_exc, Out.noX_ok, Out.thenS_ok, Out.thenS_exc, OutS.seq_next, OutS.seq_ret, OutS.seq_exc, OutS.seq_brk, OutS.seq_cont, lift_some, List.set_cons_succ, List.set_cons_zero, List.getElem?_cons_succ, List.getElem?_cons_zero, bin_add, bin_sub, bin_mul, bin_mod, bin_fdiv, bin_pow, bin_addL, bin_addT, bin_mulL, bin_mulT, cmp_eq, cmp_ne, cmp_mem, cmp_nmem, cmp_lt, cmp_le, cmp_gt, cmp_ge, view_int, view_bl, view_lst, view_tup, view_fz, view_tk, view_str, view_dk, view_non, idx_lst, idx_tup, idx_fz, idx_tk, Ev.bi_len, bi_abs, bi_int, bi_intb, bi_tuple, bi_list, bi_all, bi_any, bi_min2, bi_max2, bi_min1, bi_max1, bi_sum, bi_sorted, bi_isinst, recv_append, recv_extend, optI_nil, optI_one, Option.map_some, Option.bind_some, Bool.not_true, Bool.not_false, isNon_non, eqD_int, eqD_bl, decide_true, decide_false, if_true, if_false, Bool.false_eq_true, reduceIte, true_or, or_true, or_self, false_or, or_false, true_and, and_true, false_and, and_false, and_self, nats_len, rng_len, isC, OutS.turn_next, OutS.turn_ret, OutS.turn_cont, OutS.turn_brk, OutS.turn_exc, kt_NoneType_int, kt_NoneType_str, kt_NoneType_list, kt_NoneType_tuple, kt_NoneType_dict, kt_NoneType_bool, kt_bool_int, kt_bool_str, kt_bool_list, kt_bool_tuple, kt_bool_dict, kt_bool_bool, kt_int_int, kt_int_str, kt_int_list, kt_int_tuple, kt_int_dict, kt_int_bool, kt_str_int, kt_str_str, kt_str_list, kt_str_tuple, kt_str_dict, kt_str_bool, kt_list_int, kt_list_str, kt_list_list, kt_list_tuple, kt_list_dict, kt_list_bool, kt_tuple_int, kt_tuple_str, kt_tuple_list, kt_tuple_tuple, kt_tuple_dict, kt_tuple_bool, kt_dict_int, kt_dict_str, kt_dict_list, kt_dict_tuple, kt_dict_dict, kt_dict_bool, ty_non, ty_bl, ty_int, ty_str, ty_tup, ty_tk, ty_lst, ty_fz, isNon_bl, isNon_int, isNon_str, isNon_tupl, isNon_lstl, at0, at1, at2, at3, Int.reduceEq, Int.reduceLT, Int.reduceLE, Int.reduceSub, Int.reduceAdd, Int.reduceMul, List.length_cons, List.length_nil, List.length_append, Nat.zero_add, e_lc5, hei, List.length_map, List.length_range', show (rows.length + (L - 1)) / L ≤ SZ by omega, hlc]
/-- what the pieces are -/
theorem piece_len {L : Nat} {rows : List Row} (h1 : 1 ≤ L) {i : Nat} {p : List Row} (h : (pieces L rows)[i]? = some p) : p = (rows.drop (i * L)).take L ∧ i * L < rows.length ∧ (i + 1 < (pieces L rows).length → p.length = L) ∧ p.length ≤ L ∧ p ≠ [] := by
  have hn : (pieces L rows).length = (rows.length + (L - 1)) / L := by simp [pieces]
  have hi := (List.getElem?_eq_some_iff.mp h).1
  rw [hn] at hi
  unfold pieces at h
  rw [List.getElem?_map, List.getElem?_range' hi] at h
  have hp : (rows.drop (i * L)).take L = p := by simpa using h
  have h3 : (i + 1) * L ≤ rows.length + (L - 1) := by
    have := (Nat.le_div_iff_mul_le (by omega)).mp (show i + 1 ≤ (rows.length + (L - 1)) / L by omega)
    exact this
  rw [Nat.add_mul, Nat.one_mul] at h3
  have h4 : i * L < rows.length := by omega
  refine ⟨hp.symm, h4, fun h5 => ?_, ?_, fun z => ?_⟩
  · rw [hn] at h5
    have h6 := (Nat.le_div_iff_mul_le (by omega)).mp (show i + 1 + 1 ≤ (rows.length + (L - 1)) / L by omega)
    rw [Nat.add_mul, Nat.add_mul, Nat.one_mul] at h6
    rw [← hp, List.length_take, List.length_drop]
    omega
  · rw [← hp, List.length_take]; omega
  · rw [z] at hp
    have := congrArg List.length hp
    rw [List.length_take, List.length_drop, List.length_nil] at this
    omega
theorem pieces_flat {L : Nat} (h1 : 1 ≤ L) : ∀ (i : Nat) (rows : List Row), i ≤ (pieces L rows).length → ((pieces L rows).take i).flatten = rows.take (i * L)
  | 0, rows, _ => by simp
  | i + 1, rows, h => by
    have ih := pieces_flat h1 i rows (by omega)
    obtain ⟨p, hp⟩ : ∃ p, (pieces L rows)[i]? = some p := ⟨_, List.getElem?_eq_getElem (by omega)⟩
    obtain ⟨q, _⟩ := piece_len h1 hp
    rw [List.take_succ, hp, List.flatten_append, ih, q]
    simp only [Option.toList_some, List.flatten_cons, List.flatten_nil, List.append_nil]
    rw [Nat.add_mul, Nat.one_mul, List.take_add]
theorem pieces_all {L : Nat} {rows : List Row} (h1 : 1 ≤ L) : (pieces L rows).flatten = rows := by
  have h := pieces_flat h1 (pieces L rows).length rows (Nat.le_refl _)
  rw [List.take_length] at h
  rw [h, List.take_of_length_le]
  have hn : (pieces L rows).length = (rows.length + (L - 1)) / L := by simp [pieces]
  rw [hn]
  have := Nat.div_add_mod (rows.length + (L - 1)) L
  have h3 := Nat.mod_lt (rows.length + (L - 1)) (show 0 < L by omega)
  rw [Nat.mul_comm] at this
  omega
/-! ### the law's own pair -/
theorem take_app {s : Sto} {L : Nat} {x : D} (h : L ≤ s.length) : (s ++ [x]).take L = s.take L := by rw [List.take_append_of_le_length h]
theorem take_set {s : Sto} {L n : Nat} {x : D} (h : L ≤ n) : (s.set n x).take L = s.take L := by
  apply List.ext_getElem?
  intro i
  rw [List.getElem?_take, List.getElem?_take]
  split
  · rw [List.getElem?_set_ne (by omega)]
  · rfl
theorem lp_loop {C : Nat → List D → Sto → Out D} {r : Str} {L : Nat} {x1 : Option D} : ∀ (cs : List Cell) (ms : List OV) (s : Sto) (n : Nat) (y : Option D), (∀ c ∈ cs, suits r c ∧ (mems c).length ≤ 1000) → ms.length + 1000 * cs.length ≤ 1000000 → s[n]? = some (.lst (ms.map OV.d)) → L ≤ n →
    ∃ s' n' y', forGo (fb G C L (.one 3) b__law_pair_l1) (cs.map Cell.d) [some (.str r), x1, some (.ref n), y] s = .next [some (.str r), x1, some (.ref n'), y'] s' ∧ s'.take L = s.take L ∧ s'[n']? = some (.lst ((ms ++ cs.flatMap mems).map OV.d)) ∧ L ≤ n'
  | [], ms, s, n, y, _, _, hs, hn => ⟨s, n, y, rfl, rfl, by simpa using hs, hn⟩
  | c :: cs, ms, s, n, y, h, hl, hs, hn => by
    have hz : SZ = 16777216 := rfl
    rw [List.length_cons] at hl
    obtain ⟨hc, hm⟩ := h c (by simp)
    have hsl := (List.getElem?_eq_some_iff.mp hs).1
    have step : ∃ s1 n1, evSs G C L b__law_pair_l1 [some (.str r), x1, some (.ref n), some c.d] s = .next [some (.str r), x1, some (.ref n1), some c.d] s1 ∧ s1.take L = s.take L ∧ s1[n1]? = some (.lst ((ms ++ mems c).map OV.d)) ∧ L ≤ n1 := by
      by_cases h1 : r = (S [108, 111, 116])
      · subst h1
        cases c with
        | v o =>
          cases o with
          | i n => rcases hc with h | h | h <;> exact absurd h (by decide)
          | s x => exact absurd hc (show (S [108, 111, 116]) ≠ (S [119, 111, 114, 100]) by decide)
        | sh ns => exact absurd hc (show (S [108, 111, 116]) ≠ (S [115, 104, 97, 114, 101]) by decide)
        | lot ws =>
          have hm : ws.length ≤ 1000 := by simpa [mems] using hm
          have e : (mems (.lot ws)).map OV.d = ws.map D.str := by simp [mems, Function.comp_def, OV.d]
          refine ⟨s ++ [.lst ((ms ++ mems (.lot ws)).map OV.d)], s.length, ?_, take_app (by omega), get_last, by omega⟩
          rw [List.map_append, e]
          have hv : (s[n]?).getD .non = .lst (ms.map OV.d) := by rw [hs]; rfl
          unfold b__law_pair_l1 Cell.d
          simp only [ss_cons, ss_nil, s_set, s_sets, s_put, s_expr, s_ret, s_retN, s_if, s_for1, s_for2, s_for3, s_for4, s_for5, s_brk, s_cont, s_raise, fb_one, fb_many, fb_manyK, lb_one, lb_many, e_non, e_bool, e_int, e_str, e_var, e_gf, e_tyE, e_bin, e_neg, e_nt, e_and, e_or, e_cmp, e_chain, e_isN, e_notN, e_isB, e_notB, e_call, e_bi, e_listR1, e_listR2, e_idx, e_slc, e_tupE, e_lstE, e_box, e_bm, es_nil, es_cons, et_nil, et_cons, ea_one, ea_cons, eo_one, eo_cons, ei_rng1, ei_rng2, ei_seq, ei_rev, e_lc1, e_lc2, e_lc3, e_lc4, e_lc5, e_bits, e_sset, ei_rng3, recv_index, idx_str, bi_ord, bi_str, bin_mulS, bin_addS, cmp_ltS, cmp_leS, cmp_gtS, cmp_geS, eqD_str, setSlots_nil, setSlots_cons, asg_many, asg_manyK, slc_lst, slc_tup, wipeD, Out.bind_ok, Out.bind_exc, Out.noX_ok, Out.thenS_ok, Out.thenS_exc, OutS.seq_next, OutS.seq_ret, OutS.seq_exc, OutS.seq_brk, OutS.seq_cont, lift_some, List.set_cons_succ, List.set_cons_zero, List.getElem?_cons_succ, List.getElem?_cons_zero, bin_add, bin_sub, bin_mul, bin_mod, bin_fdiv, bin_pow, bin_addL, bin_addT, bin_mulL, bin_mulT, cmp_eq, cmp_ne, cmp_mem, cmp_nmem, cmp_lt, cmp_le, cmp_gt, cmp_ge, view_int, view_bl, view_lst, view_tup, view_fz, view_tk, view_str, view_dk, view_non, idx_lst, idx_tup, idx_fz, idx_tk, Ev.bi_len, bi_abs, bi_int, bi_intb, bi_tuple, bi_list, bi_all, bi_any, bi_min2, bi_max2, bi_min1, bi_max1, bi_sum, bi_sorted, bi_isinst, recv_append, recv_extend, optI_nil, optI_one, Option.map_some, Option.bind_some, Bool.not_true, Bool.not_false, isNon_non, eqD_int, eqD_bl, decide_true, decide_false, if_true, if_false, Bool.false_eq_true, reduceIte, true_or, or_true, or_self, false_or, or_false, true_and, and_true, false_and, and_false, and_self, nats_len, rng_len, isC, OutS.turn_next, OutS.turn_ret, OutS.turn_cont, OutS.turn_brk, OutS.turn_exc, kt_NoneType_int, kt_NoneType_str, kt_NoneType_list, kt_NoneType_tuple, kt_NoneType_dict, kt_NoneType_bool, kt_bool_int, kt_bool_str, kt_bool_list, kt_bool_tuple, kt_bool_dict, kt_bool_bool, kt_int_int, kt_int_str, kt_int_list, kt_int_tuple, kt_int_dict, kt_int_bool, kt_str_int, kt_str_str, kt_str_list, kt_str_tuple, kt_str_dict, kt_str_bool, kt_list_int, kt_list_str, kt_list_list, kt_list_tuple, kt_list_dict, kt_list_bool, kt_tuple_int, kt_tuple_str, kt_tuple_list, kt_tuple_tuple, kt_tuple_dict, kt_tuple_bool, kt_dict_int, kt_dict_str, kt_dict_list, kt_dict_tuple, kt_dict_dict, kt_dict_bool, ty_non, ty_bl, ty_int, ty_str, ty_tup, ty_tk, ty_lst, ty_fz, isNon_bl, isNon_int, isNon_str, isNon_tupl, isNon_lstl, at0, at1, at2, at3, Int.reduceEq, Int.reduceLT, Int.reduceLE, Int.reduceSub, Int.reduceAdd, Int.reduceMul, List.length_cons, List.length_nil, List.length_append, Nat.zero_add, bin_addR, hv, List.length_map, show ms.length + ws.length ≤ SZ by omega]
      · by_cases h2 : r = (S [115, 104, 97, 114, 101])
        · subst h2
          cases c with
          | v o =>
            cases o with
            | i n => rcases hc with h | h | h <;> exact absurd h (by decide)
            | s x => exact absurd hc (show (S [115, 104, 97, 114, 101]) ≠ (S [119, 111, 114, 100]) by decide)
          | lot ws => exact absurd hc (show (S [115, 104, 97, 114, 101]) ≠ (S [108, 111, 116]) by decide)
          | sh ns =>
            have hap := bm_append (st := s) (fl := L) (n := n) (v := .int ns.sum) hs (by rw [List.length_map]; omega) (by unfold wrOk; simp [hn])
            refine ⟨s.set n (.lst ((ms ++ mems (.sh ns)).map OV.d)), n, ?_, take_set hn, List.getElem?_set_self hsl, hn⟩
            have hv : (s[n]?).getD .non = .lst (ms.map OV.d) := by rw [hs]; rfl
            rw [List.map_append]
            unfold b__law_pair_l1 Cell.d
            simp only [ss_cons, ss_nil, s_set, s_sets, s_put, s_expr, s_ret, s_retN, s_if, s_for1, s_for2, s_for3, s_for4, s_for5, s_brk, s_cont, s_raise, fb_one, fb_many, fb_manyK, lb_one, lb_many, e_non, e_bool, e_int, e_str, e_var, e_gf, e_tyE, e_bin, e_neg, e_nt, e_and, e_or, e_cmp, e_chain, e_isN, e_notN, e_isB, e_notB, e_call, e_bi, e_listR1, e_listR2, e_idx, e_slc, e_tupE, e_lstE, e_box, e_bm, es_nil, es_cons, et_nil, et_cons, ea_one, ea_cons, eo_one, eo_cons, ei_rng1, ei_rng2, ei_seq, ei_rev, e_lc1, e_lc2, e_lc3, e_lc4, e_lc5, e_bits, e_sset, ei_rng3, recv_index, idx_str, bi_ord, bi_str, bin_mulS, bin_addS, cmp_ltS, cmp_leS, cmp_gtS, cmp_geS, eqD_str, setSlots_nil, setSlots_cons, asg_many, asg_manyK, slc_lst, slc_tup, wipeD, Out.bind_ok, Out.bind_exc, Out.noX_ok, Out.thenS_ok, Out.thenS_exc, OutS.seq_next, OutS.seq_ret, OutS.seq_exc, OutS.seq_brk, OutS.seq_cont, lift_some, List.set_cons_succ, List.set_cons_zero, List.getElem?_cons_succ, List.getElem?_cons_zero, bin_add, bin_sub, bin_mul, bin_mod, bin_fdiv, bin_pow, bin_addL, bin_addT, bin_mulL, bin_mulT, cmp_eq, cmp_ne, cmp_mem, cmp_nmem, cmp_lt, cmp_le, cmp_gt, cmp_ge, view_int, view_bl, view_lst, view_tup, view_fz, view_tk, view_str, view_dk, view_non, idx_lst, idx_tup, idx_fz, idx_tk, Ev.bi_len, bi_abs, bi_int, bi_intb, bi_tuple, bi_list, bi_all, bi_any, bi_min2, bi_max2, bi_min1, bi_max1, bi_sum, bi_sorted, bi_isinst, recv_append, recv_extend, optI_nil, optI_one, Option.map_some, Option.bind_some, Bool.not_true, Bool.not_false, isNon_non, eqD_int, eqD_bl, decide_true, decide_false, if_true, if_false, Bool.false_eq_true, reduceIte, true_or, or_true, or_self, false_or, or_false, true_and, and_true, false_and, and_false, and_self, nats_len, rng_len, isC, OutS.turn_next, OutS.turn_ret, OutS.turn_cont, OutS.turn_brk, OutS.turn_exc, kt_NoneType_int, kt_NoneType_str, kt_NoneType_list, kt_NoneType_tuple, kt_NoneType_dict, kt_NoneType_bool, kt_bool_int, kt_bool_str, kt_bool_list, kt_bool_tuple, kt_bool_dict, kt_bool_bool, kt_int_int, kt_int_str, kt_int_list, kt_int_tuple, kt_int_dict, kt_int_bool, kt_str_int, kt_str_str, kt_str_list, kt_str_tuple, kt_str_dict, kt_str_bool, kt_list_int, kt_list_str, kt_list_list, kt_list_tuple, kt_list_dict, kt_list_bool, kt_tuple_int, kt_tuple_str, kt_tuple_list, kt_tuple_tuple, kt_tuple_dict, kt_tuple_bool, kt_dict_int, kt_dict_str, kt_dict_list, kt_dict_tuple, kt_dict_dict, kt_dict_bool, ty_non, ty_bl, ty_int, ty_str, ty_tup, ty_tk, ty_lst, ty_fz, isNon_bl, isNon_int, isNon_str, isNon_tupl, isNon_lstl, at0, at1, at2, at3, Int.reduceEq, Int.reduceLT, Int.reduceLE, Int.reduceSub, Int.reduceAdd, Int.reduceMul, List.length_cons, List.length_nil, List.length_append, Nat.zero_add, eq_false h1, toInts_zs, view_ref, hv, hap]
            rfl
        · have hap := bm_append (st := s) (fl := L) (n := n) (v := c.d) hs (by rw [List.length_map]; omega) (by unfold wrOk; simp [hn])
          have e : (mems c).map OV.d = [c.d] := by
            cases c with
            | lot ws => exact absurd hc h1
            | sh ns => exact absurd hc h2
            | v o => rfl
          refine ⟨s.set n (.lst ((ms ++ mems c).map OV.d)), n, ?_, take_set hn, List.getElem?_set_self hsl, hn⟩
          have hv : (s[n]?).getD .non = .lst (ms.map OV.d) := by rw [hs]; rfl
          rw [List.map_append, e]
          unfold b__law_pair_l1
          simp only [ss_cons, ss_nil, s_set, s_sets, s_put, s_expr, s_ret, s_retN, s_if, s_for1, s_for2, s_for3, s_for4, s_for5, s_brk, s_cont, s_raise, fb_one, fb_many, fb_manyK, lb_one, lb_many, e_non, e_bool, e_int, e_str, e_var, e_gf, e_tyE, e_bin, e_neg, e_nt, e_and, e_or, e_cmp, e_chain, e_isN, e_notN, e_isB, e_notB, e_call, e_bi, e_listR1, e_listR2, e_idx, e_slc, e_tupE, e_lstE, e_box, e_bm, es_nil, es_cons, et_nil, et_cons, ea_one, ea_cons, eo_one, eo_cons, ei_rng1, ei_rng2, ei_seq, ei_rev, e_lc1, e_lc2, e_lc3, e_lc4, e_lc5, e_bits, e_sset, ei_rng3, recv_index, idx_str, bi_ord, bi_str, bin_mulS, bin_addS, cmp_ltS, cmp_leS, cmp_gtS, cmp_geS, eqD_str, setSlots_nil, setSlots_cons, asg_many, asg_manyK, slc_lst, slc_tup, wipeD, Out.bind_ok, Out.bind_exc, Out.noX_ok, Out.thenS_ok, Out.thenS_exc, OutS.seq_next, OutS.seq_ret, OutS.seq_exc, OutS.seq_brk, OutS.seq_cont, lift_some, List.set_cons_succ, List.set_cons_zero, List.getElem?_cons_succ, List.getElem?_cons_zero, bin_add, bin_sub, bin_mul, bin_mod, bin_fdiv, bin_pow, bin_addL, bin_addT, bin_mulL, bin_mulT, cmp_eq, cmp_ne, cmp_mem, cmp_nmem, cmp_lt, cmp_le, cmp_gt, cmp_ge, view_int, view_bl, view_lst, view_tup, view_fz, view_tk, view_str, view_dk, view_non, idx_lst, idx_tup, idx_fz, idx_tk, Ev.bi_len, bi_abs, bi_int, bi_intb, bi_tuple, bi_list, bi_all, bi_any, bi_min2, bi_max2, bi_min1, bi_max1, bi_sum, bi_sorted, bi_isinst, recv_append, recv_extend, optI_nil, optI_one, Option.map_some, Option.bind_some, Bool.not_true, Bool.not_false, isNon_non, eqD_int, eqD_bl, decide_true, decide_false, if_true, if_false, Bool.false_eq_true, reduceIte, true_or, or_true, or_self, false_or, or_false, true_and, and_true, false_and, and_false, and_self, nats_len, rng_len, isC, OutS.turn_next, OutS.turn_ret, OutS.turn_cont, OutS.turn_brk, OutS.turn_exc, kt_NoneType_int, kt_NoneType_str, kt_NoneType_list, kt_NoneType_tuple, kt_NoneType_dict, kt_NoneType_bool, kt_bool_int, kt_bool_str, kt_bool_list, kt_bool_tuple, kt_bool_dict, kt_bool_bool, kt_int_int, kt_int_str, kt_int_list, kt_int_tuple, kt_int_dict, kt_int_bool, kt_str_int, kt_str_str, kt_str_list, kt_str_tuple, kt_str_dict, kt_str_bool, kt_list_int, kt_list_str, kt_list_list, kt_list_tuple, kt_list_dict, kt_list_bool, kt_tuple_int, kt_tuple_str, kt_tuple_list, kt_tuple_tuple, kt_tuple_dict, kt_tuple_bool, kt_dict_int, kt_dict_str, kt_dict_list, kt_dict_tuple, kt_dict_dict, kt_dict_bool, ty_non, ty_bl, ty_int, ty_str, ty_tup, ty_tk, ty_lst, ty_fz, isNon_bl, isNon_int, isNon_str, isNon_tupl, isNon_lstl, at0, at1, at2, at3, Int.reduceEq, Int.reduceLT, Int.reduceLE, Int.reduceSub, Int.reduceAdd, Int.reduceMul, List.length_cons, List.length_nil, List.length_append, Nat.zero_add, eq_false h1, eq_false h2, view_ref, hv, hap]
    obtain ⟨s1, n1, e1, t1, g1, b1⟩ := step
    obtain ⟨s', n', y', e2, t2, g2, b2⟩ := lp_loop (C := C) (r := r) (L := L) (x1 := x1) cs (ms ++ mems c) s1 n1 (some c.d) (fun z hz => h z (by simp [hz])) (by rw [List.length_append]; omega) g1 b1
    refine ⟨s', n', y', ?_, t2.trans t1, by rw [List.flatMap_cons, ← List.append_assoc]; exact g2, b2⟩
    rw [List.map_cons, forGo, fb_one]
    simp only [List.set_cons_succ, List.set_cons_zero]
    rw [e1, OutS.turn_next, e2]
theorem r_lpair {k fl : Nat} {st : Sto} {r : Str} {cs : List Cell} (h : ∀ c ∈ cs, suits r c ∧ (mems c).length ≤ 1000) (hl : cs.length ≤ 900) :
    ∃ p, run G (k + 1) fl i__law_pair [.str r, .lst (cs.map Cell.d)] st = .ok (pairD p) st ∧ pairOk r p (cs.flatMap mems) := by
  obtain ⟨s', n', y', e, t, g, b⟩ := lp_loop (C := run G k st.length) (r := r) (L := st.length) (x1 := some (.lst (cs.map Cell.d))) cs [] (st ++ [.lst []]) st.length none h (by simp; omega) (by simp) (Nat.le_refl _)
  rw [List.nil_append] at g
  rw [take_app (Nat.le_refl _), List.take_length] at t
  have hsl := (List.getElem?_eq_some_iff.mp g).1
  have hk : ∀ m ∈ cs.flatMap mems, m.k = rk r := fun m hm => by
    obtain ⟨c, hc, hm⟩ := List.mem_flatMap.mp hm
    exact mems_k (h c hc).1 m hm
  have hemp := eqR_nil (st := s') (n := n') g (okNs_ov _)
  by_cases h0 : cs.flatMap mems = []
  · refine ⟨none, ?_, h0⟩
    rw [h0] at hemp
    have q := run_popS (G := G) (k := k) (fl := fl) (F := f__law_pair) (f := i__law_pair) (ds := [.str r, .lst (cs.map Cell.d)]) (st := st) (st' := s') (d := .non) (d' := .non) rfl rfl rfl (by
      show evSs G (run G k st.length) _ b__law_pair [some (.str r), some (.lst (cs.map Cell.d)), none, none] st = _
      unfold b__law_pair
      rw [List.map_nil] at hemp
      simp only [ss_cons, ss_nil, s_set, s_sets, s_put, s_expr, s_ret, s_retN, s_if, s_for1, s_for2, s_for3, s_for4, s_for5, s_brk, s_cont, s_raise, fb_one, fb_many, fb_manyK, lb_one, lb_many, e_non, e_bool, e_int, e_str, e_var, e_gf, e_tyE, e_bin, e_neg, e_nt, e_and, e_or, e_cmp, e_chain, e_isN, e_notN, e_isB, e_notB, e_call, e_bi, e_listR1, e_listR2, e_idx, e_slc, e_tupE, e_lstE, e_box, e_bm, es_nil, es_cons, et_nil, et_cons, ea_one, ea_cons, eo_one, eo_cons, ei_rng1, ei_rng2, ei_seq, ei_rev, e_lc1, e_lc2, e_lc3, e_lc4, e_lc5, e_bits, e_sset, ei_rng3, recv_index, idx_str, bi_ord, bi_str, bin_mulS, bin_addS, cmp_ltS, cmp_leS, cmp_gtS, cmp_geS, eqD_str, setSlots_nil, setSlots_cons, asg_many, asg_manyK, slc_lst, slc_tup, wipeD, Out.bind_ok, Out.bind_exc, Out.noX_ok, Out.thenS_ok, Out.thenS_exc, OutS.seq_next, OutS.seq_ret, OutS.seq_exc, OutS.seq_brk, OutS.seq_cont, lift_some, List.set_cons_succ, List.set_cons_zero, List.getElem?_cons_succ, List.getElem?_cons_zero, bin_add, bin_sub, bin_mul, bin_mod, bin_fdiv, bin_pow, bin_addL, bin_addT, bin_mulL, bin_mulT, cmp_eq, cmp_ne, cmp_mem, cmp_nmem, cmp_lt, cmp_le, cmp_gt, cmp_ge, view_int, view_bl, view_lst, view_tup, view_fz, view_tk, view_str, view_dk, view_non, idx_lst, idx_tup, idx_fz, idx_tk, Ev.bi_len, bi_abs, bi_int, bi_intb, bi_tuple, bi_list, bi_all, bi_any, bi_min2, bi_max2, bi_min1, bi_max1, bi_sum, bi_sorted, bi_isinst, recv_append, recv_extend, optI_nil, optI_one, Option.map_some, Option.bind_some, Bool.not_true, Bool.not_false, isNon_non, eqD_int, eqD_bl, decide_true, decide_false, if_true, if_false, Bool.false_eq_true, reduceIte, true_or, or_true, or_self, false_or, or_false, true_and, and_true, false_and, and_false, and_self, nats_len, rng_len, isC, OutS.turn_next, OutS.turn_ret, OutS.turn_cont, OutS.turn_brk, OutS.turn_exc, kt_NoneType_int, kt_NoneType_str, kt_NoneType_list, kt_NoneType_tuple, kt_NoneType_dict, kt_NoneType_bool, kt_bool_int, kt_bool_str, kt_bool_list, kt_bool_tuple, kt_bool_dict, kt_bool_bool, kt_int_int, kt_int_str, kt_int_list, kt_int_tuple, kt_int_dict, kt_int_bool, kt_str_int, kt_str_str, kt_str_list, kt_str_tuple, kt_str_dict, kt_str_bool, kt_list_int, kt_list_str, kt_list_list, kt_list_tuple, kt_list_dict, kt_list_bool, kt_tuple_int, kt_tuple_str, kt_tuple_list, kt_tuple_tuple, kt_tuple_dict, kt_tuple_bool, kt_dict_int, kt_dict_str, kt_dict_list, kt_dict_tuple, kt_dict_dict, kt_dict_bool, ty_non, ty_bl, ty_int, ty_str, ty_tup, ty_tk, ty_lst, ty_fz, isNon_bl, isNon_int, isNon_str, isNon_tupl, isNon_lstl, at0, at1, at2, at3, Int.reduceEq, Int.reduceLT, Int.reduceLE, Int.reduceSub, Int.reduceAdd, Int.reduceMul, List.length_cons, List.length_nil, List.length_append, Nat.zero_add, e, hemp, List.isEmpty_nil]) rfl
    rw [q, t]
    rfl
  · obtain ⟨ss, s1, s2, s3⟩ := sort_O hk
    have hsl2 := s2.length_eq
    have hne : ((cs.flatMap mems).map OV.d).isEmpty = false := by
      cases hq : cs.flatMap mems with
      | nil => exact absurd hq h0
      | cons a b => rfl
    have hpos : 0 < ss.length := by
      rw [hsl2]
      exact List.length_pos_iff.mpr h0
    obtain ⟨lo, hlo⟩ : ∃ lo, ss[0]? = some lo := ⟨_, List.getElem?_eq_getElem hpos⟩
    obtain ⟨hi, hhi⟩ : ∃ hi, ss[ss.length - 1]? = some hi := ⟨_, List.getElem?_eq_getElem (by omega)⟩
    have hlm := s2.subset (List.mem_of_getElem? hlo)
    have hhm := s2.subset (List.mem_of_getElem? hhi)
    refine ⟨some (lo, hi), ?_, hk _ hlm, hk _ hhm, fun m hm => ?_, hlm, hhm⟩
    · have hs := s1 s' (.ref n') (by rw [view_ref, g]; rfl)
      have v1 : view (s' ++ [.lst (ss.map OV.d)]) (.ref s'.length) = .lst (ss.map OV.d) := by rw [view_ref, get_last]; rfl
      have i0 : idxD (s' ++ [.lst (ss.map OV.d)]) (.ref s'.length) (.int 0) = some lo.d := by
        rw [idx_view v1]
        exact atI_at (i := 0) (by rw [List.getElem?_map, hlo]; rfl)
      have i1 : idxD (s' ++ [.lst (ss.map OV.d)]) (.ref s'.length) (.int (-1)) = some hi.d := by
        rw [idx_view v1]
        have hix : ixN (ss.map OV.d).length (-1) = some (ss.length - 1) := by
          rw [List.length_map]
          unfold ixN
          simp
          omega
        unfold atI
        rw [hix, Option.bind_some, List.getElem?_map, hhi]
        rfl
      have q := run_popS (G := G) (k := k) (fl := fl) (F := f__law_pair) (f := i__law_pair) (ds := [.str r, .lst (cs.map Cell.d)]) (st := st) (st' := s' ++ [.lst (ss.map OV.d)]) (d := pairD (some (lo, hi))) (d' := pairD (some (lo, hi))) rfl rfl rfl (by
        show evSs G (run G k st.length) _ b__law_pair [some (.str r), some (.lst (cs.map Cell.d)), none, none] st = _
        unfold b__law_pair
        simp only [ss_cons, ss_nil, s_set, s_sets, s_put, s_expr, s_ret, s_retN, s_if, s_for1, s_for2, s_for3, s_for4, s_for5, s_brk, s_cont, s_raise, fb_one, fb_many, fb_manyK, lb_one, lb_many, e_non, e_bool, e_int, e_str, e_var, e_gf, e_tyE, e_bin, e_neg, e_nt, e_and, e_or, e_cmp, e_chain, e_isN, e_notN, e_isB, e_notB, e_call, e_bi, e_listR1, e_listR2, e_idx, e_slc, e_tupE, e_lstE, e_box, e_bm, es_nil, es_cons, et_nil, et_cons, ea_one, ea_cons, eo_one, eo_cons, ei_rng1, ei_rng2, ei_seq, ei_rev, e_lc1, e_lc2, e_lc3, e_lc4, e_lc5, e_bits, e_sset, ei_rng3, recv_index, idx_str, bi_ord, bi_str, bin_mulS, bin_addS, cmp_ltS, cmp_leS, cmp_gtS, cmp_geS, eqD_str, setSlots_nil, setSlots_cons, asg_many, asg_manyK, slc_lst, slc_tup, wipeD, Out.bind_ok, Out.bind_exc, Out.noX_ok, Out.thenS_ok, Out.thenS_exc, OutS.seq_next, OutS.seq_ret, OutS.seq_exc, OutS.seq_brk, OutS.seq_cont, lift_some, List.set_cons_succ, List.set_cons_zero, List.getElem?_cons_succ, List.getElem?_cons_zero, bin_add, bin_sub, bin_mul, bin_mod, bin_fdiv, bin_pow, bin_addL, bin_addT, bin_mulL, bin_mulT, cmp_eq, cmp_ne, cmp_mem, cmp_nmem, cmp_lt, cmp_le, cmp_gt, cmp_ge, view_int, view_bl, view_lst, view_tup, view_fz, view_tk, view_str, view_dk, view_non, idx_lst, idx_tup, idx_fz, idx_tk, Ev.bi_len, bi_abs, bi_int, bi_intb, bi_tuple, bi_list, bi_all, bi_any, bi_min2, bi_max2, bi_min1, bi_max1, bi_sum, bi_isinst, recv_append, recv_extend, optI_nil, optI_one, Option.map_some, Option.bind_some, Bool.not_true, Bool.not_false, isNon_non, eqD_int, eqD_bl, decide_true, decide_false, if_true, if_false, Bool.false_eq_true, reduceIte, true_or, or_true, or_self, false_or, or_false, true_and, and_true, false_and, and_false, and_self, nats_len, rng_len, isC, OutS.turn_next, OutS.turn_ret, OutS.turn_cont, OutS.turn_brk, OutS.turn_exc, kt_NoneType_int, kt_NoneType_str, kt_NoneType_list, kt_NoneType_tuple, kt_NoneType_dict, kt_NoneType_bool, kt_bool_int, kt_bool_str, kt_bool_list, kt_bool_tuple, kt_bool_dict, kt_bool_bool, kt_int_int, kt_int_str, kt_int_list, kt_int_tuple, kt_int_dict, kt_int_bool, kt_str_int, kt_str_str, kt_str_list, kt_str_tuple, kt_str_dict, kt_str_bool, kt_list_int, kt_list_str, kt_list_list, kt_list_tuple, kt_list_dict, kt_list_bool, kt_tuple_int, kt_tuple_str, kt_tuple_list, kt_tuple_tuple, kt_tuple_dict, kt_tuple_bool, kt_dict_int, kt_dict_str, kt_dict_list, kt_dict_tuple, kt_dict_dict, kt_dict_bool, ty_non, ty_bl, ty_int, ty_str, ty_tup, ty_tk, ty_lst, ty_fz, isNon_bl, isNon_int, isNon_str, isNon_tupl, isNon_lstl, at0, at1, at2, at3, Int.reduceEq, Int.reduceLT, Int.reduceLE, Int.reduceSub, Int.reduceAdd, Int.reduceMul, List.length_cons, List.length_nil, List.length_append, Nat.zero_add, e, hemp, hne, hs, i0, i1, Int.reduceNeg]
        rfl) (by
          refine if_pos ?_
          show (D.lo 0 lo.d && (D.lo 0 hi.d && true)) = true
          rw [OV.lo, OV.lo]; rfl)
      rw [q]
      have hL : st.length ≤ s'.length := by
        have := congrArg List.length t
        rw [List.length_take] at this
        omega
      rw [take_app hL, t]
    · have hm2 := s2.symm.subset hm
      rw [List.pairwise_iff_getElem] at s3
      obtain ⟨i, hi2, rfl⟩ := List.getElem_of_mem hm2
      obtain ⟨g0, rfl⟩ := List.getElem?_eq_some_iff.mp hlo
      obtain ⟨g1, rfl⟩ := List.getElem?_eq_some_iff.mp hhi
      refine ⟨?_, ?_⟩
      · by_cases z : i = 0
        · subst z; exact ltO_irr _
        · exact s3 0 i g0 hi2 (by omega)
      · by_cases z : i = ss.length - 1
        · subst z; exact ltO_irr _
        · exact s3 i _ hi2 g1 (by omega)
/-! ### the law -/
theorem okPair {n : Nat} (p : Option (OV × OV)) : okN (n + 1) (pairD p) = true := by
  cases p with
  | none => simp [pairD, okN]
  | some q =>
    have h : ∀ o : OV, okN n o.d = true := fun o => by cases o <;> simp [OV.d, okN]
    show okN (n + 1) (.tup [q.1.d, q.2.d]) = true
    rw [okN, okNs, okNs, okNs, h, h]; rfl
theorem okStat {n : Nat} {m : Int} {a b : OV} {ps : List (Option (OV × OV))} : okN (n + 3) (.tup [.int m, a.d, b.d, .tup (ps.map pairD)]) = true := by
  have h : ∀ (n : Nat) (o : OV), okN n o.d = true := fun n o => by cases o <;> simp [OV.d, okN]
  have h2 : okN (n + 2) (.tup (ps.map pairD)) = true := by rw [okN]; exact okNs_map (fun p => okPair p) ps
  rw [okN, okNs, okNs, okNs, okNs, okNs, h, h, h2]
  simp [okN]
theorem pairs_eq {t : Tb} {rows : List Row} {ps qs : List (Option (OV × OV))} (h1 : ps.length = t.cols.length) (h2 : qs.length = t.cols.length)
    (hp : ∀ (i : Nat) (p : Option (OV × OV)) (q : Str × Str), ps[i]? = some p → t.cols[i]? = some q → pairOk q.2 p ((colOf rows i).flatMap mems)) (hq : ∀ (i : Nat) (p : Option (OV × OV)) (q : Str × Str), qs[i]? = some p → t.cols[i]? = some q → pairOk q.2 p ((colOf rows i).flatMap mems)) : ps = qs := by
  apply List.ext_getElem (h1.trans h2.symm)
  intro i g1 g2
  exact pair_unique (hp i _ _ (List.getElem?_eq_getElem g1) (List.getElem?_eq_getElem (by omega))) (hq i _ _ (List.getElem?_eq_getElem g2) (List.getElem?_eq_getElem (by omega)))
section
variable {rw : List Nat} {W : Wd} {e : Sto}
theorem law_l1 {t : Tb} {p : List Row} {P : List (List Row)} {i c : Nat} {ps : List (Option (OV × OV))} {x0 x2 x4 x5 x7 x10 x11 x12 : Option D} {s : Sto} {n : Nat} (hp : P[i]? = some p) (hrows : ∀ r ∈ p, RowOk t r) (hl : p.length ≤ 900) (hc : c < t.cols.length) (hs : s[n]? = some (.lst (ps.map pairD))) (hps : ps.length ≤ 1000) :
    ∃ pr, evSs G (run G 19 0) 0 b_law_l1 [x0, some (.ref 0), x2, some (tbD t), x4, x5, some (.tup (P.map fun p => .tup (p.map Row.d))), x7, some (.int (i : Int)), some (.ref n), some (.int (c : Int)), x11, x12] s = .next [x0, some (.ref 0), x2, some (tbD t), x4, x5, some (.tup (P.map fun p => .tup (p.map Row.d))), x7, some (.int (i : Int)), some (.ref n), some (.int (c : Int)), x11, x12] (s.set n (.lst ((ps ++ [pr]).map pairD))) ∧
      ∀ q, t.cols[c]? = some q → pairOk q.2 pr ((colOf p c).flatMap mems) := by
  have hz : SZ = 16777216 := rfl
  obtain ⟨q, hq⟩ : ∃ q, t.cols[c]? = some q := ⟨_, List.getElem?_eq_getElem hc⟩
  obtain ⟨pr, e1, e2⟩ := r_lpair (k := 18) (fl := 0) (st := s) (colOf_ok hrows hq) (by simp [colOf]; omega)
  have a1 : atI (t.cols.map colD) (c : Int) = some (.tup [.str q.1, .str q.2]) := atI_at (by rw [List.getElem?_map, hq]; rfl)
  have a2 : atI (P.map fun p => D.tup (p.map Row.d)) (i : Int) = some (.tup (p.map Row.d)) := atI_at (by rw [List.getElem?_map, hp]; rfl)
  have lc : lcGo (lb G (run G 19 0) 0 [x0, some (.ref 0), x2, some (tbD t), x4, x5, some (.tup (P.map fun p => .tup (p.map Row.d))), x7, some (.int (i : Int)), some (.ref n), some (.int (c : Int)), x11, x12] [11, 12] (.many [11, 12]) .nil b_law_c1) (p.map Row.d) s = .ok ((colOf p c).map Cell.d) s := by
    unfold colOf
    rw [List.map_map]
    refine lc_map p fun r hr => ?_
    have hlen := (hrows r hr).2.1
    have a3 : atI (r.cells.map Cell.d) (c : Int) = some (r.cells.getD c (.lot [])).d := atI_at (by
      rw [List.getElem?_map, List.getD_eq_getElem?_getD, List.getElem?_eq_getElem (show c < r.cells.length by omega)]; rfl)
    unfold b_law_c1 Row.d
    simp only [ss_cons, ss_nil, s_set, s_sets, s_put, s_expr, s_ret, s_retN, s_if, s_for1, s_for2, s_for3, s_for4, s_for5, s_brk, s_cont, s_raise, fb_one, fb_many, fb_manyK, lb_one, lb_many, e_non, e_bool, e_int, e_str, e_var, e_gf, e_tyE, e_bin, e_neg, e_nt, e_and, e_or, e_cmp, e_chain, e_isN, e_notN, e_isB, e_notB, e_call, e_bi, e_listR1, e_listR2, e_idx, e_slc, e_tupE, e_lstE, e_box, e_bm, es_nil, es_cons, et_nil, et_cons, ea_one, ea_cons, eo_one, eo_cons, ei_rng1, ei_rng2, ei_seq, ei_rev, e_lc1, e_lc2, e_lc3, e_lc4, e_lc5, e_bits, e_sset, ei_rng3, recv_index, idx_str, bi_ord, bi_str, bin_mulS, bin_addS, cmp_ltS, cmp_leS, cmp_gtS, cmp_geS, eqD_str, setSlots_nil, setSlots_cons, asg_many, asg_manyK, slc_lst, slc_tup, wipeD, Out.bind_ok, Out.bind_exc, Out.noX_ok, Out.thenS_ok, Out.thenS_exc, OutS.seq_next, OutS.seq_ret, OutS.seq_exc, OutS.seq_brk, OutS.seq_cont, lift_some, List.set_cons_succ, List.set_cons_zero, List.getElem?_cons_succ, List.getElem?_cons_zero, bin_add, bin_sub, bin_mul, bin_mod, bin_fdiv, bin_pow, bin_addL, bin_addT, bin_mulL, bin_mulT, cmp_eq, cmp_ne, cmp_mem, cmp_nmem, cmp_lt, cmp_le, cmp_gt, cmp_ge, view_int, view_bl, view_lst, view_tup, view_fz, view_tk, view_str, view_dk, view_non, idx_lst, idx_tup, idx_fz, idx_tk, Ev.bi_len, bi_abs, bi_int, bi_intb, bi_tuple, bi_list, bi_all, bi_any, bi_min2, bi_max2, bi_min1, bi_max1, bi_sum, bi_sorted, bi_isinst, recv_append, recv_extend, optI_nil, optI_one, Option.map_some, Option.bind_some, Bool.not_true, Bool.not_false, isNon_non, eqD_int, eqD_bl, decide_true, decide_false, if_true, if_false, Bool.false_eq_true, reduceIte, true_or, or_true, or_self, false_or, or_false, true_and, and_true, false_and, and_false, and_self, nats_len, rng_len, isC, OutS.turn_next, OutS.turn_ret, OutS.turn_cont, OutS.turn_brk, OutS.turn_exc, kt_NoneType_int, kt_NoneType_str, kt_NoneType_list, kt_NoneType_tuple, kt_NoneType_dict, kt_NoneType_bool, kt_bool_int, kt_bool_str, kt_bool_list, kt_bool_tuple, kt_bool_dict, kt_bool_bool, kt_int_int, kt_int_str, kt_int_list, kt_int_tuple, kt_int_dict, kt_int_bool, kt_str_int, kt_str_str, kt_str_list, kt_str_tuple, kt_str_dict, kt_str_bool, kt_list_int, kt_list_str, kt_list_list, kt_list_tuple, kt_list_dict, kt_list_bool, kt_tuple_int, kt_tuple_str, kt_tuple_list, kt_tuple_tuple, kt_tuple_dict, kt_tuple_bool, kt_dict_int, kt_dict_str, kt_dict_list, kt_dict_tuple, kt_dict_dict, kt_dict_bool, ty_non, ty_bl, ty_int, ty_str, ty_tup, ty_tk, ty_lst, ty_fz, isNon_bl, isNon_int, isNon_str, isNon_tupl, isNon_lstl, at0, at1, at2, at3, Int.reduceEq, Int.reduceLT, Int.reduceLE, Int.reduceSub, Int.reduceAdd, Int.reduceMul, List.length_cons, List.length_nil, List.length_append, Nat.zero_add, a3]
    rfl
  have hap := bm_append (st := s) (fl := 0) (n := n) (v := pairD pr) hs (by rw [List.length_map]; omega) (by unfold wrOk; simp)
  have hv : (s[n]?).getD .non = .lst (ps.map pairD) := by rw [hs]; rfl
  refine ⟨pr, ?_, fun q' hq' => by rw [hq] at hq'; cases hq'; exact e2⟩
  rw [List.map_append]
  unfold b_law_l1
  unfold tbD colsD at lc ⊢
  simp only [ss_cons, ss_nil, s_set, s_sets, s_put, s_expr, s_ret, s_retN, s_if, s_for1, s_for2, s_for3, s_for4, s_for5, s_brk, s_cont, s_raise, fb_one, fb_many, fb_manyK, lb_one, lb_many, e_non, e_bool, e_int, e_str, e_var, e_gf, e_tyE, e_bin, e_neg, e_nt, e_and, e_or, e_cmp, e_chain, e_isN, e_notN, e_isB, e_notB, e_call, e_bi, e_listR1, e_listR2, e_idx, e_slc, e_tupE, e_lstE, e_box, e_bm, es_nil, es_cons, et_nil, et_cons, ea_one, ea_cons, eo_one, eo_cons, ei_rng1, ei_rng2, ei_seq, ei_rev, e_lc1, e_lc2, e_lc3, e_lc4, e_lc5, e_bits, e_sset, ei_rng3, recv_index, idx_str, bi_ord, bi_str, bin_mulS, bin_addS, cmp_ltS, cmp_leS, cmp_gtS, cmp_geS, eqD_str, setSlots_nil, setSlots_cons, asg_many, asg_manyK, slc_lst, slc_tup, wipeD, Out.bind_ok, Out.bind_exc, Out.noX_ok, Out.thenS_ok, Out.thenS_exc, OutS.seq_next, OutS.seq_ret, OutS.seq_exc, OutS.seq_brk, OutS.seq_cont, lift_some, List.set_cons_succ, List.set_cons_zero, List.getElem?_cons_succ, List.getElem?_cons_zero, bin_add, bin_sub, bin_mul, bin_mod, bin_fdiv, bin_pow, bin_addL, bin_addT, bin_mulL, bin_mulT, cmp_eq, cmp_ne, cmp_mem, cmp_nmem, cmp_lt, cmp_le, cmp_gt, cmp_ge, view_int, view_bl, view_lst, view_tup, view_fz, view_tk, view_str, view_dk, view_non, idx_lst, idx_tup, idx_fz, idx_tk, Ev.bi_len, bi_abs, bi_int, bi_intb, bi_tuple, bi_list, bi_all, bi_any, bi_min2, bi_max2, bi_min1, bi_max1, bi_sum, bi_sorted, bi_isinst, recv_append, recv_extend, optI_nil, optI_one, Option.map_some, Option.bind_some, Bool.not_true, Bool.not_false, isNon_non, eqD_int, eqD_bl, decide_true, decide_false, if_true, if_false, Bool.false_eq_true, reduceIte, true_or, or_true, or_self, false_or, or_false, true_and, and_true, false_and, and_false, and_self, nats_len, rng_len, isC, OutS.turn_next, OutS.turn_ret, OutS.turn_cont, OutS.turn_brk, OutS.turn_exc, kt_NoneType_int, kt_NoneType_str, kt_NoneType_list, kt_NoneType_tuple, kt_NoneType_dict, kt_NoneType_bool, kt_bool_int, kt_bool_str, kt_bool_list, kt_bool_tuple, kt_bool_dict, kt_bool_bool, kt_int_int, kt_int_str, kt_int_list, kt_int_tuple, kt_int_dict, kt_int_bool, kt_str_int, kt_str_str, kt_str_list, kt_str_tuple, kt_str_dict, kt_str_bool, kt_list_int, kt_list_str, kt_list_list, kt_list_tuple, kt_list_dict, kt_list_bool, kt_tuple_int, kt_tuple_str, kt_tuple_list, kt_tuple_tuple, kt_tuple_dict, kt_tuple_bool, kt_dict_int, kt_dict_str, kt_dict_list, kt_dict_tuple, kt_dict_dict, kt_dict_bool, ty_non, ty_bl, ty_int, ty_str, ty_tup, ty_tk, ty_lst, ty_fz, isNon_bl, isNon_int, isNon_str, isNon_tupl, isNon_lstl, at0, at1, at2, at3, Int.reduceEq, Int.reduceLT, Int.reduceLE, Int.reduceSub, Int.reduceAdd, Int.reduceMul, List.length_cons, List.length_nil, List.length_append, Nat.zero_add, a1, a2, List.length_map, show p.length ≤ SZ by omega, lc, e1, view_ref, hv, hap]
  rfl
theorem law_l2 {t : Tb} {L : Nat} {rows : List Row} {i : Nat} {x0 x2 x9 x10 x11 x12 : Option D} {a : Nat} (ht : TbG t) (h1 : 1 ≤ L) (h2 : L ≤ 25) (hrows : ∀ r ∈ rows, RowOk t r) (hl : rows.length ≤ 100) (hi : i < (pieces L rows).length) :
    ∃ c z9 z10, evSs G (run G 19 0) 0 b_law_l2 [x0, some (.ref 0), x2, some (tbD t), some (.tup (rows.map Row.d)), some (.int (L : Int)), some (.tup ((pieces L rows).map fun p => .tup (p.map Row.d))), some (.tup ((((pieces L rows).take i).flatten).map Row.d)), some (.int (i : Int)), x9, x10, x11, x12] (wcell rw a W :: e) =
      .next [x0, some (.ref 0), x2, some (tbD t), some (.tup (rows.map Row.d)), some (.int (L : Int)), some (.tup ((pieces L rows).map fun p => .tup (p.map Row.d))), some (.tup ((((pieces L rows).take (i + 1)).flatten).map Row.d)), some (.int (i : Int)), z9, z10, x11, x12] (wcell rw a W :: (e ++ [c])) := by
  have hz : SZ = 16777216 := rfl
  have hok := ht.ok
  have hfew := hok.few
  obtain ⟨p, hp⟩ : ∃ p, (pieces L rows)[i]? = some p := ⟨_, List.getElem?_eq_getElem hi⟩
  obtain ⟨q1, q2, q3, q4, q5⟩ := piece_len h1 hp
  have hsub : ∀ r ∈ p, r ∈ rows := fun r hr => by rw [q1] at hr; exact List.mem_of_mem_drop (List.mem_of_mem_take hr)
  have hprows : ∀ r ∈ p, RowOk t r := fun r hr => hrows r (hsub r hr)
  have hfl := pieces_flat h1 i rows (by omega)
  have hfll : (((pieces L rows).take i).flatten).length ≤ 100 := by rw [hfl, List.length_take]; omega
  have hnext : ((pieces L rows).take (i + 1)).flatten = ((pieces L rows).take i).flatten ++ p := by
    rw [List.take_succ, hp, List.flatten_append]
    simp
  have a2 : atI ((pieces L rows).map fun p => D.tup (p.map Row.d)) (i : Int) = some (.tup (p.map Row.d)) := atI_at (by rw [List.getElem?_map, hp]; rfl)
  -- the pairs
  obtain ⟨n, hn⟩ : ∃ n, e.length + 1 = n := ⟨_, rfl⟩
  have sm : small62 (t.cols.length : Int) = true := small62_n (by omega)
  have lm : ((t.cols.length : Int) - 0).toNat ≤ SZ := by omega
  have key := forGo_inv (b := fb G (run G 19 0) 0 (.one 10) b_law_l1) (xs := rng 0 (t.cols.length : Int)) (fun j ρ st => ∃ y10 ps, ρ = [x0, some (.ref 0), x2, some (tbD t), some (.tup (rows.map Row.d)), some (.int (L : Int)), some (.tup ((pieces L rows).map fun p => .tup (p.map Row.d))), some (.tup ((((pieces L rows).take (i + 1)).flatten).map Row.d)), some (.int (i : Int)), some (.ref (e.length + 1)), y10, x11, x12] ∧ st = (wcell rw a W :: (e ++ [.lst (ps.map pairD)])) ∧ ps.length = j ∧
      ∀ (j : Nat) (pr : Option (OV × OV)) (q : Str × Str), ps[j]? = some pr → t.cols[j]? = some q → pairOk q.2 pr ((colOf p j).flatMap mems))
    (ρ := [x0, some (.ref 0), x2, some (tbD t), some (.tup (rows.map Row.d)), some (.int (L : Int)), some (.tup ((pieces L rows).map fun p => .tup (p.map Row.d))), some (.tup ((((pieces L rows).take (i + 1)).flatten).map Row.d)), some (.int (i : Int)), some (.ref (e.length + 1)), x10, x11, x12]) (st := (wcell rw a W :: (e ++ [.lst []]))) ⟨x10, [], rfl, rfl, rfl, by simp⟩ (by
      intro j x hx ρ st ⟨y10, ps, g1, g2, g3, g4⟩
      obtain ⟨hj, rfl⟩ := rng_get hx
      subst g1 g2
      rw [Int.zero_add]
      obtain ⟨pr, f1, f2⟩ := law_l1 (t := t) (p := p) (P := pieces L rows) (i := i) (c := j) (ps := ps) (x0 := x0) (x2 := x2) (x4 := some (.tup (rows.map Row.d))) (x5 := some (.int (L : Int))) (x7 := some (.tup ((((pieces L rows).take (i + 1)).flatten).map Row.d))) (x10 := y10) (x11 := x11) (x12 := x12) (s := (wcell rw a W :: (e ++ [.lst (ps.map pairD)]))) (n := e.length + 1) hp hprows (by omega) (by omega) (by simp) (by omega)
      rw [show (wcell rw a W :: (e ++ [.lst (ps.map pairD)])).set (e.length + 1) (.lst ((ps ++ [pr]).map pairD)) = wcell rw a W :: (e ++ [.lst ((ps ++ [pr]).map pairD)]) by simp [List.set_append_right]] at f1
      refine ⟨_, _, .inl ?_, some (.int (j : Int)), ps ++ [pr], rfl, rfl, by simp [g3], fun j' p' q' w1 w2 => ?_⟩
      · rw [fb_one]
        simp only [List.set_cons_succ, List.set_cons_zero]
        exact f1
      · by_cases hj2 : j' < ps.length
        · rw [List.getElem?_append_left hj2] at w1
          exact g4 j' p' q' w1 w2
        · have : j' = ps.length := by
            have := (List.getElem?_eq_some_iff.mp w1).1
            simp at this
            omega
          subst this
          simp at w1
          subst w1
          rw [g3] at w2 ⊢
          exact f2 q' w2)
  obtain ⟨ρ, st, ef, y10, ps, g1, g2, g3, g4⟩ := key
  subst g1 g2
  rw [rng_len] at g3
  obtain ⟨r0, rs, rfl⟩ : ∃ r rs, p = r :: rs := by
    cases p with
    | nil => exact absurd rfl q5
    | cons r rs => exact ⟨r, rs, rfl⟩
  obtain ⟨r1, hr1⟩ : ∃ r1, (r0 :: rs)[(r0 :: rs).length - 1]? = some r1 := ⟨_, List.getElem?_eq_getElem (by simp)⟩
  obtain ⟨ps', e3, hpl, hp'⟩ := r_statistics (k := 16) (fl := 0) (st := (wcell rw a W :: (e ++ [.lst (ps.map pairD)]))) hok hprows (by omega) (r0 := r0) (r1 := r1) rfl hr1
  rw [show (16 + 3) = 19 from rfl, ← pairs_eq (by omega) hpl g4 hp'] at e3
  have b0 : atI ((r0 :: rs).map Row.d) 0 = some (.tup [r0.key.d, .tup (r0.cells.map Cell.d)]) := by rw [List.map_cons, at0]; rfl
  have b1 : atI ((r0 :: rs).map Row.d) (-1) = some (.tup [r1.key.d, .tup (r1.cells.map Cell.d)]) := by
    have hix : ixN ((r0 :: rs).map Row.d).length (-1) = some ((r0 :: rs).length - 1) := by
      rw [List.length_map]
      unfold ixN
      simp
      omega
    unfold atI
    rw [hix, Option.bind_some, List.getElem?_map, hr1]
    rfl
  have heq : ∀ st, eqD st (.tup [.int ((r0 :: rs).length : Nat), r0.key.d, r1.key.d, .tup (ps.map pairD)]) (.tup [.int ((r0 :: rs).length : Nat), r0.key.d, r1.key.d, .tup (ps.map pairD)]) = some true := fun st => eqD_same rfl rfl (okStat (n := 57))
  have hemp : ∀ st, eqD st (.tup ((r0 :: rs).map Row.d)) (.tup []) = some false := fun st => eqD_nilT (xs := (r0 :: rs).map Row.d) (okNs_map (n := 59) (fun r => okRow (n := 56) r) _)
  refine ⟨.lst (ps.map pairD), some (.ref (e.length + 1)), y10, ?_⟩
  have hvp : view (wcell rw a W :: (e ++ [.lst (ps.map pairD)])) (.ref (e.length + 1)) = .lst (ps.map pairD) := view_ks
  have htup : biD (wcell rw a W :: (e ++ [.lst (ps.map pairD)])) .tuple [.ref (e.length + 1)] = some (.tup (ps.map pairD)) := by rw [bi_tuple, hvp]
  have hadd : ∀ st, binD st .add (.tup ((((pieces L rows).take i).flatten).map Row.d)) (.tup ((r0 :: rs).map Row.d)) = some (.tup ((((pieces L rows).take (i + 1)).flatten).map Row.d)) := fun st => by
    rw [bin_addT, hnext, List.map_append, if_pos (by rw [List.length_map, List.length_map]; omega)]
  have len1 : ∀ st, biD st .len [.tup ((r0 :: rs).map Row.d)] = some (.int ((r0 :: rs).length : Nat)) := fun st => by rw [lenT_view (xs := (r0 :: rs).map Row.d) rfl, List.length_map]
  have len2 : ∀ st, biD st .len [.tup ((pieces L rows).map fun p => D.tup (p.map Row.d))] = some (.int ((pieces L rows).length : Nat)) := fun st => by rw [lenT_view (xs := (pieces L rows).map fun p => D.tup (p.map Row.d)) rfl, List.length_map]
  have len3 : ∀ st, biD st .len [.tup (t.cols.map colD)] = some (.int (t.cols.length : Nat)) := fun st => by rw [lenT_view (xs := t.cols.map colD) rfl, List.length_map]
  have td : tbD t = .tup [.str t.name, .str t.kind, .tup (t.cols.map colD)] := rfl
  have hwl : (wcell rw a W :: e).length = e.length + 1 := rfl
  unfold b_law_l2
  rw [td] at ef e3 ⊢
  by_cases hL : (r0 :: rs).length = L
  · have c0 : ((((r0 :: rs).length : Nat) : Int) = (L : Int)) = True := eq_true (by rw [hL])
    simp only [ss_cons, ss_nil, s_set, s_sets, s_put, s_expr, s_ret, s_retN, s_if, s_for1, s_for2, s_for3, s_for4, s_for5, s_brk, s_cont, s_raise, fb_one, fb_many, fb_manyK, lb_one, lb_many, e_non, e_bool, e_int, e_str, e_var, e_gf, e_tyE, e_bin, e_neg, e_nt, e_and, e_or, e_cmp, e_chain, e_isN, e_notN, e_isB, e_notB, e_call, e_bi, e_listR1, e_listR2, e_idx, e_slc, e_tupE, e_lstE, e_box, e_bm, es_nil, es_cons, et_nil, et_cons, ea_one, ea_cons, eo_one, eo_cons, ei_rng1, ei_rng2, ei_seq, ei_rev, e_lc1, e_lc2, e_lc3, e_lc4, e_lc5, e_bits, e_sset, ei_rng3, recv_index, idx_str, bi_ord, bi_str, bin_mulS, bin_addS, cmp_ltS, cmp_leS, cmp_gtS, cmp_geS, eqD_str, setSlots_nil, setSlots_cons, asg_many, asg_manyK, slc_lst, slc_tup, wipeD, Out.bind_ok, Out.bind_exc, Out.noX_ok, Out.thenS_ok, Out.thenS_exc, OutS.seq_next, OutS.seq_ret, OutS.seq_exc, OutS.seq_brk, OutS.seq_cont, lift_some, List.set_cons_succ, List.set_cons_zero, List.getElem?_cons_succ, List.getElem?_cons_zero, bin_add, bin_sub, bin_mul, bin_mod, bin_fdiv, bin_pow, bin_addL, bin_mulL, bin_mulT, cmp_eq, cmp_ne, cmp_mem, cmp_nmem, cmp_lt, cmp_le, cmp_gt, cmp_ge, view_int, view_bl, view_lst, view_tup, view_fz, view_tk, view_str, view_dk, view_non, idx_lst, idx_tup, idx_fz, idx_tk, bi_abs, bi_int, bi_intb, bi_list, bi_all, bi_any, bi_min2, bi_max2, bi_min1, bi_max1, bi_sum, bi_sorted, bi_isinst, recv_append, recv_extend, optI_nil, optI_one, Option.map_some, Option.bind_some, Bool.not_true, Bool.not_false, isNon_non, eqD_int, eqD_bl, decide_true, decide_false, if_true, if_false, Bool.false_eq_true, reduceIte, true_or, or_true, or_self, false_or, or_false, true_and, and_true, false_and, and_false, and_self, nats_len, rng_len, isC, OutS.turn_next, OutS.turn_ret, OutS.turn_cont, OutS.turn_brk, OutS.turn_exc, kt_NoneType_int, kt_NoneType_str, kt_NoneType_list, kt_NoneType_tuple, kt_NoneType_dict, kt_NoneType_bool, kt_bool_int, kt_bool_str, kt_bool_list, kt_bool_tuple, kt_bool_dict, kt_bool_bool, kt_int_int, kt_int_str, kt_int_list, kt_int_tuple, kt_int_dict, kt_int_bool, kt_str_int, kt_str_str, kt_str_list, kt_str_tuple, kt_str_dict, kt_str_bool, kt_list_int, kt_list_str, kt_list_list, kt_list_tuple, kt_list_dict, kt_list_bool, kt_tuple_int, kt_tuple_str, kt_tuple_list, kt_tuple_tuple, kt_tuple_dict, kt_tuple_bool, kt_dict_int, kt_dict_str, kt_dict_list, kt_dict_tuple, kt_dict_dict, kt_dict_bool, ty_non, ty_bl, ty_int, ty_str, ty_tup, ty_tk, ty_lst, ty_fz, isNon_bl, isNon_int, isNon_str, isNon_tupl, isNon_lstl, at0, at1, at2, at3, Int.reduceEq, Int.reduceLT, Int.reduceLE, Int.reduceSub, Int.reduceAdd, Int.reduceMul, List.length_nil, List.length_append, Nat.zero_add, a2, hadd, len1, len2, len3, c0, hwl, List.cons_append, sm, ef, e3, b0, b1, Int.reduceNeg, htup, heq]
  · have c0 : ((((r0 :: rs).length : Nat) : Int) = (L : Int)) = False := eq_false fun z => hL (by omega)
    have c1 : ((i : Int) + 1 < ((pieces L rows).length : Int)) = False := eq_false fun z => hL (q3 (by omega))
    have c2 : ((L : Int) < (((r0 :: rs).length : Nat) : Int)) = False := eq_false (by omega)
    simp only [ss_cons, ss_nil, s_set, s_sets, s_put, s_expr, s_ret, s_retN, s_if, s_for1, s_for2, s_for3, s_for4, s_for5, s_brk, s_cont, s_raise, fb_one, fb_many, fb_manyK, lb_one, lb_many, e_non, e_bool, e_int, e_str, e_var, e_gf, e_tyE, e_bin, e_neg, e_nt, e_and, e_or, e_cmp, e_chain, e_isN, e_notN, e_isB, e_notB, e_call, e_bi, e_listR1, e_listR2, e_idx, e_slc, e_tupE, e_lstE, e_box, e_bm, es_nil, es_cons, et_nil, et_cons, ea_one, ea_cons, eo_one, eo_cons, ei_rng1, ei_rng2, ei_seq, ei_rev, e_lc1, e_lc2, e_lc3, e_lc4, e_lc5, e_bits, e_sset, ei_rng3, recv_index, idx_str, bi_ord, bi_str, bin_mulS, bin_addS, cmp_ltS, cmp_leS, cmp_gtS, cmp_geS, eqD_str, setSlots_nil, setSlots_cons, asg_many, asg_manyK, slc_lst, slc_tup, wipeD, Out.bind_ok, Out.bind_exc, Out.noX_ok, Out.thenS_ok, Out.thenS_exc, OutS.seq_next, OutS.seq_ret, OutS.seq_exc, OutS.seq_brk, OutS.seq_cont, lift_some, List.set_cons_succ, List.set_cons_zero, List.getElem?_cons_succ, List.getElem?_cons_zero, bin_add, bin_sub, bin_mul, bin_mod, bin_fdiv, bin_pow, bin_addL, bin_mulL, bin_mulT, cmp_eq, cmp_ne, cmp_mem, cmp_nmem, cmp_lt, cmp_le, cmp_gt, cmp_ge, view_int, view_bl, view_lst, view_tup, view_fz, view_tk, view_str, view_dk, view_non, idx_lst, idx_tup, idx_fz, idx_tk, bi_abs, bi_int, bi_intb, bi_list, bi_all, bi_any, bi_min2, bi_max2, bi_min1, bi_max1, bi_sum, bi_sorted, bi_isinst, recv_append, recv_extend, optI_nil, optI_one, Option.map_some, Option.bind_some, Bool.not_true, Bool.not_false, isNon_non, eqD_int, eqD_bl, decide_true, decide_false, if_true, if_false, Bool.false_eq_true, reduceIte, true_or, or_true, or_self, false_or, or_false, true_and, and_true, false_and, and_false, and_self, nats_len, rng_len, isC, OutS.turn_next, OutS.turn_ret, OutS.turn_cont, OutS.turn_brk, OutS.turn_exc, kt_NoneType_int, kt_NoneType_str, kt_NoneType_list, kt_NoneType_tuple, kt_NoneType_dict, kt_NoneType_bool, kt_bool_int, kt_bool_str, kt_bool_list, kt_bool_tuple, kt_bool_dict, kt_bool_bool, kt_int_int, kt_int_str, kt_int_list, kt_int_tuple, kt_int_dict, kt_int_bool, kt_str_int, kt_str_str, kt_str_list, kt_str_tuple, kt_str_dict, kt_str_bool, kt_list_int, kt_list_str, kt_list_list, kt_list_tuple, kt_list_dict, kt_list_bool, kt_tuple_int, kt_tuple_str, kt_tuple_list, kt_tuple_tuple, kt_tuple_dict, kt_tuple_bool, kt_dict_int, kt_dict_str, kt_dict_list, kt_dict_tuple, kt_dict_dict, kt_dict_bool, ty_non, ty_bl, ty_int, ty_str, ty_tup, ty_tk, ty_lst, ty_fz, isNon_bl, isNon_int, isNon_str, isNon_tupl, isNon_lstl, at0, at1, at2, at3, Int.reduceEq, Int.reduceLT, Int.reduceLE, Int.reduceSub, Int.reduceAdd, Int.reduceMul, List.length_nil, List.length_append, Nat.zero_add, a2, hadd, len1, len2, len3, c0, c1, c2, hemp, hwl, List.cons_append, sm, ef, e3, b0, b1, Int.reduceNeg, htup, heq]
theorem law_l3 {t : Tb} {stations : Nat} {x0 x4 x5 x6 x7 x8 x9 x10 x11 x12 : Option D} {a : Nat} (ht : TbG t) (hr : rw.length = 400) (hW : WdOk W) (hst : stations ≤ 100) :
    ∃ a' e' z4 z5 z6 z7 z8 z9 z10, evSs G (run G 19 0) 0 b_law_l3 [x0, some (.ref 0), some (.int (stations : Int)), some (tbD t), x4, x5, x6, x7, x8, x9, x10, x11, x12] (wcell rw a W :: e) = .next [x0, some (.ref 0), some (.int (stations : Int)), some (tbD t), z4, z5, z6, z7, z8, z9, z10, x11, x12] (wcell rw a' W :: e') := by
  have hz : SZ = 16777216 := rfl
  have hok := ht.ok
  obtain ⟨rows, a1, e1, hlen, hrows, hpw⟩ := r_law_rowsW (k := 15) (fl := 0) (a := a) (e := e) (stations := stations) (most := 20) (t := t) hr hW hst (by decide) hok.few hok.rules
  rw [show (15 + 4) = 19 from rfl, show ((20 : Nat) : Int) = 20 from rfl] at e1
  obtain ⟨L, hL⟩ : ∃ L : Nat, 1 + tk rw a1 % 25 = L := ⟨_, rfl⟩
  have hL' : (1 : Int) + (tk rw a1 : Int) % 25 = (L : Int) := by omega
  have hL1 : 1 ≤ L ∧ L ≤ 25 := by omega
  have e2 := r_parts (k := 18) (fl := 0) (L := L) (st := wcell rw (a1 + 1) W :: e) (rows := rows) hL1.1 (by omega) (by omega)
  have hpl : (pieces L rows).length ≤ 100 := by
    have : (pieces L rows).length = (rows.length + (L - 1)) / L := by simp [pieces]
    have h2 : (rows.length + (L - 1)) / L ≤ rows.length + (L - 1) := Nat.div_le_self _ _
    omega
  have sm : small62 ((pieces L rows).length : Int) = true := small62_n (by omega)
  have key := forGo_inv (b := fb G (run G 19 0) 0 (.one 8) b_law_l2) (xs := rng 0 ((pieces L rows).length : Int)) (fun i ρ st => ∃ e' y8 y9 y10, ρ = [x0, some (.ref 0), some (.int (stations : Int)), some (tbD t), some (.tup (rows.map Row.d)), some (.int (L : Int)), some (.tup ((pieces L rows).map fun p => .tup (p.map Row.d))), some (.tup ((((pieces L rows).take i).flatten).map Row.d)), y8, y9, y10, x11, x12] ∧ st = (wcell rw (a1 + 1) W :: e'))
    (ρ := [x0, some (.ref 0), some (.int (stations : Int)), some (tbD t), some (.tup (rows.map Row.d)), some (.int (L : Int)), some (.tup ((pieces L rows).map fun p => .tup (p.map Row.d))), some (.tup []), x8, x9, x10, x11, x12]) (st := (wcell rw (a1 + 1) W :: e)) ⟨e, x8, x9, x10, rfl, rfl⟩ (by
      intro i x hx ρ st ⟨e', y8, y9, y10, g1, g2⟩
      obtain ⟨hi, rfl⟩ := rng_get hx
      subst g1 g2
      rw [Int.zero_add]
      obtain ⟨c, z9, z10, f⟩ := law_l2 (rw := rw) (W := W) (e := e') (t := t) (L := L) (rows := rows) (i := i) (x0 := x0) (x2 := some (.int (stations : Int))) (x9 := y9) (x10 := y10) (x11 := x11) (x12 := x12) (a := a1 + 1) ht hL1.1 hL1.2 hrows (by omega) (by omega)
      refine ⟨_, _, .inl ?_, e' ++ [c], some (.int (i : Int)), z9, z10, rfl, rfl⟩
      rw [fb_one]
      simp only [List.set_cons_succ, List.set_cons_zero]
      exact f)
  obtain ⟨ρ, st, ef, e', y8, y9, y10, g1, g2⟩ := key
  subst g1 g2
  rw [rng_len, show (((pieces L rows).length : Int) - 0).toNat = (pieces L rows).length by omega, List.take_length, pieces_all hL1.1] at ef
  have heq : ∀ st, eqD st (.tup (rows.map Row.d)) (.tup (rows.map Row.d)) = some true := fun st => eqD_same rfl rfl (by
    show okN 60 (.tup (rows.map Row.d)) = true
    rw [okN]
    exact okNs_map (n := 59) (fun r => okRow (n := 56) r) rows)
  refine ⟨a1 + 1, e', some (.tup (rows.map Row.d)), some (.int (L : Int)), some (.tup ((pieces L rows).map fun p => .tup (p.map Row.d))), some (.tup (rows.map Row.d)), y8, y9, y10, ?_⟩
  unfold b_law_l3
  simp only [ss_cons, ss_nil, s_set, s_sets, s_put, s_expr, s_ret, s_retN, s_if, s_for1, s_for2, s_for3, s_for4, s_for5, s_brk, s_cont, s_raise, fb_one, fb_many, fb_manyK, lb_one, lb_many, e_non, e_bool, e_int, e_str, e_var, e_gf, e_tyE, e_bin, e_neg, e_nt, e_and, e_or, e_cmp, e_chain, e_isN, e_notN, e_isB, e_notB, e_call, e_bi, e_listR1, e_listR2, e_idx, e_slc, e_tupE, e_lstE, e_box, e_bm, es_nil, es_cons, et_nil, et_cons, ea_one, ea_cons, eo_one, eo_cons, ei_rng1, ei_rng2, ei_seq, ei_rev, e_lc1, e_lc2, e_lc3, e_lc4, e_lc5, e_bits, e_sset, ei_rng3, recv_index, idx_str, bi_ord, bi_str, bin_mulS, bin_addS, cmp_ltS, cmp_leS, cmp_gtS, cmp_geS, eqD_str, setSlots_nil, setSlots_cons, asg_many, asg_manyK, slc_lst, slc_tup, wipeD, Out.bind_ok, Out.bind_exc, Out.noX_ok, Out.thenS_ok, Out.thenS_exc, OutS.seq_next, OutS.seq_ret, OutS.seq_exc, OutS.seq_brk, OutS.seq_cont, lift_some, List.set_cons_succ, List.set_cons_zero, List.getElem?_cons_succ, List.getElem?_cons_zero, bin_add, bin_sub, bin_mul, bin_mod, bin_fdiv, bin_pow, bin_addL, bin_addT, bin_mulL, bin_mulT, cmp_eq, cmp_ne, cmp_mem, cmp_nmem, cmp_lt, cmp_le, cmp_gt, cmp_ge, view_int, view_bl, view_lst, view_tup, view_fz, view_tk, view_str, view_dk, view_non, idx_lst, idx_tup, idx_fz, idx_tk, Ev.bi_len, bi_abs, bi_int, bi_intb, bi_tuple, bi_list, bi_all, bi_any, bi_min2, bi_max2, bi_min1, bi_max1, bi_sum, bi_sorted, bi_isinst, recv_append, recv_extend, optI_nil, optI_one, Option.map_some, Option.bind_some, Bool.not_true, Bool.not_false, isNon_non, eqD_int, eqD_bl, decide_true, decide_false, if_true, if_false, Bool.false_eq_true, reduceIte, true_or, or_true, or_self, false_or, or_false, true_and, and_true, false_and, and_false, and_self, nats_len, rng_len, isC, OutS.turn_next, OutS.turn_ret, OutS.turn_cont, OutS.turn_brk, OutS.turn_exc, kt_NoneType_int, kt_NoneType_str, kt_NoneType_list, kt_NoneType_tuple, kt_NoneType_dict, kt_NoneType_bool, kt_bool_int, kt_bool_str, kt_bool_list, kt_bool_tuple, kt_bool_dict, kt_bool_bool, kt_int_int, kt_int_str, kt_int_list, kt_int_tuple, kt_int_dict, kt_int_bool, kt_str_int, kt_str_str, kt_str_list, kt_str_tuple, kt_str_dict, kt_str_bool, kt_list_int, kt_list_str, kt_list_list, kt_list_tuple, kt_list_dict, kt_list_bool, kt_tuple_int, kt_tuple_str, kt_tuple_list, kt_tuple_tuple, kt_tuple_dict, kt_tuple_bool, kt_dict_int, kt_dict_str, kt_dict_list, kt_dict_tuple, kt_dict_dict, kt_dict_bool, ty_non, ty_bl, ty_int, ty_str, ty_tup, ty_tk, ty_lst, ty_fz, isNon_bl, isNon_int, isNon_str, isNon_tupl, isNon_lstl, at0, at1, at2, at3, Int.reduceEq, Int.reduceLT, Int.reduceLE, Int.reduceSub, Int.reduceAdd, Int.reduceMul, List.length_cons, List.length_nil, List.length_append, Nat.zero_add, e1, w_take (k := 18) hr, show (0 : Int) < 25 by decide, hL', e2, List.length_map, sm, ef, heq]
end
theorem good : ∀ ns : List Int, ns.length ≤ 63 → ∃ st', run G 20 0 i_law [.fz (ns.map D.int)] [] = .ok (.bl true) st' := by
  intro ns hns
  have hz : SZ = 16777216 := rfl
  obtain ⟨row, a, W, hr, hb, hst, hW, ha⟩ := r_startW (k := 15) (ns := ns) hns
  rw [show (15 + 4) = 19 from rfl] at hst
  obtain ⟨m, hm⟩ : ∃ m : Nat, 1 + tk row a % 4 = m := ⟨_, rfl⟩
  have hm' : (1 : Int) + (tk row a : Int) % 4 = (m : Int) := by omega
  obtain ⟨T, a0, hs, hTn, hTl, hT, hN, ha0⟩ := r_schemaW (k := 17) (fl := 0) (rw := row) (a := a + 1) hr hW
  have key := forGo_inv (b := fb G (run G 19 0) 0 (.one 3) b_law_l3) (xs := T.map tbD) (fun i ρ st => ∃ a e y3 y4 y5 y6 y7 y8 y9 y10, ρ = [some (.fz (ns.map D.int)), some (.ref 0), some (.int (m : Int)), y3, y4, y5, y6, y7, y8, y9, y10, none, none] ∧ st = (wcell row a W :: e))
    (ρ := [some (.fz (ns.map D.int)), some (.ref 0), some (.int (m : Int)), none, none, none, none, none, none, none, none, none, none]) (st := [wcell row a0 W, wnm W]) ⟨a0, [wnm W], _, _, _, _, _, _, _, _, rfl, rfl⟩ (by
      intro i x hx ρ st ⟨a, e, y3, y4, y5, y6, y7, y8, y9, y10, h1, h2⟩
      subst h1 h2
      rw [List.getElem?_map] at hx
      obtain ⟨t, ht, rfl⟩ := Option.map_eq_some_iff.mp hx
      obtain ⟨a', e', z4, z5, z6, z7, z8, z9, z10, f⟩ := law_l3 (rw := row) (W := W) (e := e) (t := t) (stations := m) (x0 := some (.fz (ns.map D.int))) (x4 := y4) (x5 := y5) (x6 := y6) (x7 := y7) (x8 := y8) (x9 := y9) (x10 := y10) (x11 := none) (x12 := none) (a := a) (hT t (List.mem_of_getElem? ht)) hr hW (by omega)
      refine ⟨_, _, .inl ?_, a', e', some (tbD t), z4, z5, z6, z7, z8, z9, z10, rfl, rfl⟩
      rw [fb_one]
      simp only [List.set_cons_succ, List.set_cons_zero]
      exact f)
  obtain ⟨ρ, st, ef, a1, e, y3, y4, y5, y6, y7, y8, y9, y10, h1, h2⟩ := key
  subst h1 h2
  refine ⟨(wcell row a1 W :: e).take 0, ?_⟩
  refine run_popS (F := f_law) (d := .bl true) (st' := (wcell row a1 W :: e)) rfl rfl rfl ?_ rfl
  show evSs G (run G 19 0) 0 b_law [some (.fz (ns.map D.int)), none, none, none, none, none, none, none, none, none, none, none, none] [] = _
  unfold b_law
  unfold schD at hs
  simp only [ss_cons, ss_nil, s_set, s_sets, s_put, s_expr, s_ret, s_retN, s_if, s_for1, s_for2, s_for3, s_for4, s_for5, s_brk, s_cont, s_raise, fb_one, fb_many, fb_manyK, lb_one, lb_many, e_non, e_bool, e_int, e_str, e_var, e_gf, e_tyE, e_bin, e_neg, e_nt, e_and, e_or, e_cmp, e_chain, e_isN, e_notN, e_isB, e_notB, e_call, e_bi, e_listR1, e_listR2, e_idx, e_slc, e_tupE, e_lstE, e_box, e_bm, es_nil, es_cons, et_nil, et_cons, ea_one, ea_cons, eo_one, eo_cons, ei_rng1, ei_rng2, ei_seq, ei_rev, e_lc1, e_lc2, e_lc3, e_lc4, e_lc5, e_bits, e_sset, ei_rng3, recv_index, idx_str, bi_ord, bi_str, bin_mulS, bin_addS, cmp_ltS, cmp_leS, cmp_gtS, cmp_geS, eqD_str, setSlots_nil, setSlots_cons, asg_many, asg_manyK, slc_lst, slc_tup, wipeD, Out.bind_ok, Out.bind_exc, Out.noX_ok, Out.thenS_ok, Out.thenS_exc, OutS.seq_next, OutS.seq_ret, OutS.seq_exc, OutS.seq_brk, OutS.seq_cont, lift_some, List.set_cons_succ, List.set_cons_zero, List.getElem?_cons_succ, List.getElem?_cons_zero, bin_add, bin_sub, bin_mul, bin_mod, bin_fdiv, bin_pow, bin_addL, bin_addT, bin_mulL, bin_mulT, cmp_eq, cmp_ne, cmp_mem, cmp_nmem, cmp_lt, cmp_le, cmp_gt, cmp_ge, view_int, view_bl, view_lst, view_tup, view_fz, view_tk, view_str, view_dk, view_non, idx_lst, idx_tup, idx_fz, idx_tk, Ev.bi_len, bi_abs, bi_int, bi_intb, bi_tuple, bi_list, bi_all, bi_any, bi_min2, bi_max2, bi_min1, bi_max1, bi_sum, bi_sorted, bi_isinst, recv_append, recv_extend, optI_nil, optI_one, Option.map_some, Option.bind_some, Bool.not_true, Bool.not_false, isNon_non, eqD_int, eqD_bl, decide_true, decide_false, if_true, if_false, Bool.false_eq_true, reduceIte, true_or, or_true, or_self, false_or, or_false, true_and, and_true, false_and, and_false, and_self, nats_len, rng_len, isC, OutS.turn_next, OutS.turn_ret, OutS.turn_cont, OutS.turn_brk, OutS.turn_exc, kt_NoneType_int, kt_NoneType_str, kt_NoneType_list, kt_NoneType_tuple, kt_NoneType_dict, kt_NoneType_bool, kt_bool_int, kt_bool_str, kt_bool_list, kt_bool_tuple, kt_bool_dict, kt_bool_bool, kt_int_int, kt_int_str, kt_int_list, kt_int_tuple, kt_int_dict, kt_int_bool, kt_str_int, kt_str_str, kt_str_list, kt_str_tuple, kt_str_dict, kt_str_bool, kt_list_int, kt_list_str, kt_list_list, kt_list_tuple, kt_list_dict, kt_list_bool, kt_tuple_int, kt_tuple_str, kt_tuple_list, kt_tuple_tuple, kt_tuple_dict, kt_tuple_bool, kt_dict_int, kt_dict_str, kt_dict_list, kt_dict_tuple, kt_dict_dict, kt_dict_bool, ty_non, ty_bl, ty_int, ty_str, ty_tup, ty_tk, ty_lst, ty_fz, isNon_bl, isNon_int, isNon_str, isNon_tupl, isNon_lstl, at0, at1, at2, at3, Int.reduceEq, Int.reduceLT, Int.reduceLE, Int.reduceSub, Int.reduceAdd, Int.reduceMul, List.length_cons, List.length_nil, List.length_append, Nat.zero_add, hst, w_take (k := 18) hr, show (0 : Int) < 4 by decide, hm', hs, ef]
end Law

set_option Elab.async false
set_option linter.all false
set_option maxRecDepth 100000
set_option maxHeartbeats 8000000
namespace Law
open Ev PySem L2 PySem.Spec
open PyProof.Rows hiding St
theorem all_mk {l : PySem.W.OpenLaw} {w : World} {K : PySem.W.Frag} {h : Heap} {mg : Str → Option Value} {fa a0 a1 a2 a3 a4 a5 a6 a7 a8 a9 a10 a11 a12 a13 a14 : Addr} (X : K.In h) (GN : h.Ns mainGlobals mg) (hfa : mg "law" = some (.ref fa))
    {od0 an0 od1 an1 od2 an2 od3 an3 od4 an4 od5 an5 od6 an6 od7 an7 od8 an8 od9 an9 od10 an10 od11 an11 od12 an12 od13 an13 od14 an14 : Option Addr} {sl0 sl1 sl2 sl3 sl4 sl5 sl6 sl7 sl8 sl9 sl10 sl11 sl12 sl13 sl14 : Array (Option Value)} {oc0 kV0 dc0 pm0 cd0 ct0 oc1 kV1 dc1 pm1 cd1 ct1 oc2 kV2 dc2 pm2 cd2 ct2 oc3 kV3 dc3 pm3 cd3 ct3 oc4 kV4 dc4 pm4 cd4 ct4 oc5 kV5 dc5 pm5 cd5 ct5 oc6 kV6 dc6 pm6 cd6 ct6 oc7 kV7 dc7 pm7 cd7 ct7 oc8 kV8 dc8 pm8 cd8 ct8 oc9 kV9 dc9 pm9 cd9 ct9 oc10 kV10 dc10 pm10 cd10 ct10 oc11 kV11 dc11 pm11 cd11 ct11 oc12 kV12 dc12 pm12 cd12 ct12 oc13 kV13 dc13 pm13 cd13 ct13 oc14 kV14 dc14 pm14 cd14 ct14 : Value}
    (A0 : PySem.W.nsIn K mainGlobals "sum_of" = some (some (.ref a0))) (l0 : K.lookup a0 = some ⟨oc0, od0, .func (PySem.W.fnOf "sum_of" "sum_of" (defArgs s0) (defBody s0) (defScope s0) .none kV0 dc0 pm0 an0 cd0 ct0), sl0⟩) (c0 : PySem.W.codeIn K cd0 "sum_of" = true) (k0 : PySem.W.keepIn K (.ref a0) = true)
    (A1 : PySem.W.nsIn K mainGlobals "pair_of" = some (some (.ref a1))) (l1 : K.lookup a1 = some ⟨oc1, od1, .func (PySem.W.fnOf "pair_of" "pair_of" (defArgs s1) (defBody s1) (defScope s1) .none kV1 dc1 pm1 an1 cd1 ct1), sl1⟩) (c1 : PySem.W.codeIn K cd1 "pair_of" = true) (k1 : PySem.W.keepIn K (.ref a1) = true)
    (A2 : PySem.W.nsIn K mainGlobals "statistics" = some (some (.ref a2))) (l2 : K.lookup a2 = some ⟨oc2, od2, .func (PySem.W.fnOf "statistics" "statistics" (defArgs s2) (defBody s2) (defScope s2) .none kV2 dc2 pm2 an2 cd2 ct2), sl2⟩) (c2 : PySem.W.codeIn K cd2 "statistics" = true) (k2 : PySem.W.keepIn K (.ref a2) = true)
    (A3 : PySem.W.nsIn K mainGlobals "parts" = some (some (.ref a3))) (l3 : K.lookup a3 = some ⟨oc3, od3, .func (PySem.W.fnOf "parts" "parts" (defArgs s3) (defBody s3) (defScope s3) .none kV3 dc3 pm3 an3 cd3 ct3), sl3⟩) (c3 : PySem.W.codeIn K cd3 "parts" = true) (k3 : PySem.W.keepIn K (.ref a3) = true)
    (A4 : PySem.W.nsIn K mainGlobals "_law_draws" = some (some (.ref a4))) (l4 : K.lookup a4 = some ⟨oc4, od4, .func (PySem.W.fnOf "_law_draws" "_law_draws" (defArgs s4) (defBody s4) (defScope s4) .none kV4 dc4 pm4 an4 cd4 ct4), sl4⟩) (c4 : PySem.W.codeIn K cd4 "_law_draws" = true) (k4 : PySem.W.keepIn K (.ref a4) = true)
    (A5 : PySem.W.nsIn K mainGlobals "_law_take" = some (some (.ref a5))) (l5 : K.lookup a5 = some ⟨oc5, od5, .func (PySem.W.fnOf "_law_take" "_law_take" (defArgs s5) (defBody s5) (defScope s5) .none kV5 dc5 pm5 an5 cd5 ct5), sl5⟩) (c5 : PySem.W.codeIn K cd5 "_law_take" = true) (k5 : PySem.W.keepIn K (.ref a5) = true)
    (A6 : PySem.W.nsIn K mainGlobals "_law_start" = some (some (.ref a6))) (l6 : K.lookup a6 = some ⟨oc6, od6, .func (PySem.W.fnOf "_law_start" "_law_start" (defArgs s6) (defBody s6) (defScope s6) .none kV6 dc6 pm6 an6 cd6 ct6), sl6⟩) (c6 : PySem.W.codeIn K cd6 "_law_start" = true) (k6 : PySem.W.keepIn K (.ref a6) = true)
    (A7 : PySem.W.nsIn K mainGlobals "_law_drawn" = some (some (.ref a7))) (l7 : K.lookup a7 = some ⟨oc7, od7, .func (PySem.W.fnOf "_law_drawn" "_law_drawn" (defArgs s7) (defBody s7) (defScope s7) .none kV7 dc7 pm7 an7 cd7 ct7), sl7⟩) (c7 : PySem.W.codeIn K cd7 "_law_drawn" = true) (k7 : PySem.W.keepIn K (.ref a7) = true)
    (A8 : PySem.W.nsIn K mainGlobals "_law_widen" = some (some (.ref a8))) (l8 : K.lookup a8 = some ⟨oc8, od8, .func (PySem.W.fnOf "_law_widen" "_law_widen" (defArgs s8) (defBody s8) (defScope s8) .none kV8 dc8 pm8 an8 cd8 ct8), sl8⟩) (c8 : PySem.W.codeIn K cd8 "_law_widen" = true) (k8 : PySem.W.keepIn K (.ref a8) = true)
    (A9 : PySem.W.nsIn K mainGlobals "_law_schema" = some (some (.ref a9))) (l9 : K.lookup a9 = some ⟨oc9, od9, .func (PySem.W.fnOf "_law_schema" "_law_schema" (defArgs s9) (defBody s9) (defScope s9) .none kV9 dc9 pm9 an9 cd9 ct9), sl9⟩) (c9 : PySem.W.codeIn K cd9 "_law_schema" = true) (k9 : PySem.W.keepIn K (.ref a9) = true)
    (A10 : PySem.W.nsIn K mainGlobals "_law_word" = some (some (.ref a10))) (l10 : K.lookup a10 = some ⟨oc10, od10, .func (PySem.W.fnOf "_law_word" "_law_word" (defArgs s10) (defBody s10) (defScope s10) .none kV10 dc10 pm10 an10 cd10 ct10), sl10⟩) (c10 : PySem.W.codeIn K cd10 "_law_word" = true) (k10 : PySem.W.keepIn K (.ref a10) = true)
    (A11 : PySem.W.nsIn K mainGlobals "_law_a_cell" = some (some (.ref a11))) (l11 : K.lookup a11 = some ⟨oc11, od11, .func (PySem.W.fnOf "_law_a_cell" "_law_a_cell" (defArgs s11) (defBody s11) (defScope s11) .none kV11 dc11 pm11 an11 cd11 ct11), sl11⟩) (c11 : PySem.W.codeIn K cd11 "_law_a_cell" = true) (k11 : PySem.W.keepIn K (.ref a11) = true)
    (A12 : PySem.W.nsIn K mainGlobals "_law_rows" = some (some (.ref a12))) (l12 : K.lookup a12 = some ⟨oc12, od12, .func (PySem.W.fnOf "_law_rows" "_law_rows" (defArgs s12) (defBody s12) (defScope s12) .none kV12 dc12 pm12 an12 cd12 ct12), sl12⟩) (c12 : PySem.W.codeIn K cd12 "_law_rows" = true) (k12 : PySem.W.keepIn K (.ref a12) = true)
    (A13 : PySem.W.nsIn K mainGlobals "_law_pair" = some (some (.ref a13))) (l13 : K.lookup a13 = some ⟨oc13, od13, .func (PySem.W.fnOf "_law_pair" "_law_pair" (defArgs s13) (defBody s13) (defScope s13) .none kV13 dc13 pm13 an13 cd13 ct13), sl13⟩) (c13 : PySem.W.codeIn K cd13 "_law_pair" = true) (k13 : PySem.W.keepIn K (.ref a13) = true)
    (A14 : PySem.W.nsIn K mainGlobals "law" = some (some (.ref a14))) (l14 : K.lookup a14 = some ⟨oc14, od14, .func (PySem.W.fnOf "law" "law" (defArgs s14) (defBody s14) (defScope s14) .none kV14 dc14 pm14 an14 cd14 ct14), sl14⟩) (c14 : PySem.W.codeIn K cd14 "law" = true) (k14 : PySem.W.keepIn K (.ref a14) = true)
    (z_abs : PySem.W.nsIn K mainGlobals "abs" = some none)
    (z_all : PySem.W.nsIn K mainGlobals "all" = some none)
    (z_any : PySem.W.nsIn K mainGlobals "any" = some none)
    (z_bool : PySem.W.nsIn K mainGlobals "bool" = some none)
    (z_dict : PySem.W.nsIn K mainGlobals "dict" = some none)
    (z_int : PySem.W.nsIn K mainGlobals "int" = some none)
    (z_isinstance : PySem.W.nsIn K mainGlobals "isinstance" = some none)
    (z_len : PySem.W.nsIn K mainGlobals "len" = some none)
    (z_list : PySem.W.nsIn K mainGlobals "list" = some none)
    (z_max : PySem.W.nsIn K mainGlobals "max" = some none)
    (z_min : PySem.W.nsIn K mainGlobals "min" = some none)
    (z_ord : PySem.W.nsIn K mainGlobals "ord" = some none)
    (z_range : PySem.W.nsIn K mainGlobals "range" = some none)
    (z_reversed : PySem.W.nsIn K mainGlobals "reversed" = some none)
    (z_set : PySem.W.nsIn K mainGlobals "set" = some none)
    (z_sorted : PySem.W.nsIn K mainGlobals "sorted" = some none)
    (z_str : PySem.W.nsIn K mainGlobals "str" = some none)
    (z_sum : PySem.W.nsIn K mainGlobals "sum" = some none)
    (z_tuple : PySem.W.nsIn K mainGlobals "tuple" = some none)
    : ∃ fd : FuncData, (∀ (s : Shared) (v : Value), BindsTo s fd ⟨[v], []⟩ [("script", v)]) ∧ ∀ base : Heap, K.In base → base.Ns mainGlobals mg → FnOk l.prog w K mg base (CX l.prog w) 20 fa fd ["script"] (Ev.spLaw K) := by
  have e := hfa.symm.trans (PySem.W.mg_of X GN A14)
  cases e
  have F0 := fun_mk (st := s0) l0 c0 k0
  have T0 : FnFact K mg G f_sum_of _ _ ["rule", "cell"] s0 "sum_of" := ⟨PySem.W.mg_of X GN A0, F0, sc0, rfl, F0.binds fun _ _ _ _ _ _ us hl => match us, hl with | [_, _], _ => rfl, em0⟩
  have F1 := fun_mk (st := s1) l1 c1 k1
  have T1 : FnFact K mg G f_pair_of _ _ ["rule", "cells"] s1 "pair_of" := ⟨PySem.W.mg_of X GN A1, F1, sc1, rfl, F1.binds fun _ _ _ _ _ _ us hl => match us, hl with | [_, _], _ => rfl, em1⟩
  have F2 := fun_mk (st := s2) l2 c2 k2
  have T2 : FnFact K mg G f_statistics _ _ ["table", "rows"] s2 "statistics" := ⟨PySem.W.mg_of X GN A2, F2, sc2, rfl, F2.binds fun _ _ _ _ _ _ us hl => match us, hl with | [_, _], _ => rfl, em2⟩
  have F3 := fun_mk (st := s3) l3 c3 k3
  have T3 : FnFact K mg G f_parts _ _ ["rows", "limit"] s3 "parts" := ⟨PySem.W.mg_of X GN A3, F3, sc3, rfl, F3.binds fun _ _ _ _ _ _ us hl => match us, hl with | [_, _], _ => rfl, em3⟩
  have F4 := fun_mk (st := s4) l4 c4 k4
  have T4 : FnFact K mg G f__law_draws _ _ ["script", "many"] s4 "_law_draws" := ⟨PySem.W.mg_of X GN A4, F4, sc4, rfl, F4.binds fun _ _ _ _ _ _ us hl => match us, hl with | [_, _], _ => rfl, em4⟩
  have F5 := fun_mk (st := s5) l5 c5 k5
  have T5 : FnFact K mg G f__law_take _ _ ["d"] s5 "_law_take" := ⟨PySem.W.mg_of X GN A5, F5, sc5, rfl, F5.binds fun _ _ _ _ _ _ us hl => match us, hl with | [_], _ => rfl, em5⟩
  have F6 := fun_mk (st := s6) l6 c6 k6
  have T6 : FnFact K mg G f__law_start _ _ ["script"] s6 "_law_start" := ⟨PySem.W.mg_of X GN A6, F6, sc6, rfl, F6.binds fun _ _ _ _ _ _ us hl => match us, hl with | [_], _ => rfl, em6⟩
  have F7 := fun_mk (st := s7) l7 c7 k7
  have T7 : FnFact K mg G f__law_drawn _ _ ["d", "signs", "least", "most"] s7 "_law_drawn" := ⟨PySem.W.mg_of X GN A7, F7, sc7, rfl, F7.binds fun _ _ _ _ _ _ us hl => match us, hl with | [_, _, _, _], _ => rfl, em7⟩
  have F8 := fun_mk (st := s8) l8 c8 k8
  have T8 : FnFact K mg G f__law_widen _ _ ["d"] s8 "_law_widen" := ⟨PySem.W.mg_of X GN A8, F8, sc8, rfl, F8.binds fun _ _ _ _ _ _ us hl => match us, hl with | [_], _ => rfl, em8⟩
  have F9 := fun_mk (st := s9) l9 c9 k9
  have T9 : FnFact K mg G f__law_schema _ _ ["d"] s9 "_law_schema" := ⟨PySem.W.mg_of X GN A9, F9, sc9, rfl, F9.binds fun _ _ _ _ _ _ us hl => match us, hl with | [_], _ => rfl, em9⟩
  have F10 := fun_mk (st := s10) l10 c10 k10
  have T10 : FnFact K mg G f__law_word _ _ ["d"] s10 "_law_word" := ⟨PySem.W.mg_of X GN A10, F10, sc10, rfl, F10.binds fun _ _ _ _ _ _ us hl => match us, hl with | [_], _ => rfl, em10⟩
  have F11 := fun_mk (st := s11) l11 c11 k11
  have T11 : FnFact K mg G f__law_a_cell _ _ ["d", "rule", "stations"] s11 "_law_a_cell" := ⟨PySem.W.mg_of X GN A11, F11, sc11, rfl, F11.binds fun _ _ _ _ _ _ us hl => match us, hl with | [_, _, _], _ => rfl, em11⟩
  have F12 := fun_mk (st := s12) l12 c12 k12
  have T12 : FnFact K mg G f__law_rows _ _ ["d", "table", "stations", "most"] s12 "_law_rows" := ⟨PySem.W.mg_of X GN A12, F12, sc12, rfl, F12.binds fun _ _ _ _ _ _ us hl => match us, hl with | [_, _, _, _], _ => rfl, em12⟩
  have F13 := fun_mk (st := s13) l13 c13 k13
  have T13 : FnFact K mg G f__law_pair _ _ ["rule", "cells"] s13 "_law_pair" := ⟨PySem.W.mg_of X GN A13, F13, sc13, rfl, F13.binds fun _ _ _ _ _ _ us hl => match us, hl with | [_, _], _ => rfl, em13⟩
  have F14 := fun_mk (st := s14) l14 c14 k14
  have T14 : FnFact K mg G f_law _ _ ["script"] s14 "law" := ⟨PySem.W.mg_of X GN A14, F14, sc14, rfl, F14.binds fun _ _ _ _ _ _ us hl => match us, hl with | [_], _ => rfl, em14⟩
  have g : GFact w K mg G := by
    refine ⟨fun n => ?_, PySem.W.mg_none_of X GN z_range, PySem.W.mg_none_of X GN z_reversed, fun t ht => ?_, ⟨fun c p h => ?_, fun c p c1 p1 A A1 h h1 g g1 => ?_⟩, fun c p h => ?_, fun c p h => ?_, fun f F h => ?_⟩
    · cases n
      · exact PySem.W.mg_none_of X GN z_len
      · exact PySem.W.mg_none_of X GN z_abs
      · exact PySem.W.mg_none_of X GN z_int
      · exact PySem.W.mg_none_of X GN z_tuple
      · exact PySem.W.mg_none_of X GN z_list
      · exact PySem.W.mg_none_of X GN z_all
      · exact PySem.W.mg_none_of X GN z_any
      · exact PySem.W.mg_none_of X GN z_min
      · exact PySem.W.mg_none_of X GN z_max
      · exact PySem.W.mg_none_of X GN z_min
      · exact PySem.W.mg_none_of X GN z_max
      · exact PySem.W.mg_none_of X GN z_sum
      · exact PySem.W.mg_none_of X GN z_sorted
      · exact PySem.W.mg_none_of X GN z_str
      · exact PySem.W.mg_none_of X GN z_ord
      · exact PySem.W.mg_none_of X GN z_dict
      · exact PySem.W.mg_none_of X GN z_isinstance
      · exact PySem.W.mg_none_of X GN z_set
    · simp only [tyNames, List.mem_cons, List.not_mem_nil, or_false] at ht
      rcases ht with rfl | rfl | rfl | rfl | rfl | rfl
      · exact PySem.W.mg_none_of X GN z_int
      · exact PySem.W.mg_none_of X GN z_str
      · exact PySem.W.mg_none_of X GN z_list
      · exact PySem.W.mg_none_of X GN z_tuple
      · exact PySem.W.mg_none_of X GN z_dict
      · exact PySem.W.mg_none_of X GN z_bool
    · match c, h with
      | n + 0, h => exact nomatch h
    · match c, h, c1, h1 with
      | n + 0, h, _, _ => exact nomatch h
    · match c, h with
      | n + 0, h => exact nomatch h
    · match c, h with
      | n + 0, h => exact nomatch h
    · match f, h with
      | 0, h => exact (Option.some.inj h) ▸ ⟨_, _, _, _, _, T0⟩
      | 1, h => exact (Option.some.inj h) ▸ ⟨_, _, _, _, _, T1⟩
      | 2, h => exact (Option.some.inj h) ▸ ⟨_, _, _, _, _, T2⟩
      | 3, h => exact (Option.some.inj h) ▸ ⟨_, _, _, _, _, T3⟩
      | 4, h => exact (Option.some.inj h) ▸ ⟨_, _, _, _, _, T4⟩
      | 5, h => exact (Option.some.inj h) ▸ ⟨_, _, _, _, _, T5⟩
      | 6, h => exact (Option.some.inj h) ▸ ⟨_, _, _, _, _, T6⟩
      | 7, h => exact (Option.some.inj h) ▸ ⟨_, _, _, _, _, T7⟩
      | 8, h => exact (Option.some.inj h) ▸ ⟨_, _, _, _, _, T8⟩
      | 9, h => exact (Option.some.inj h) ▸ ⟨_, _, _, _, _, T9⟩
      | 10, h => exact (Option.some.inj h) ▸ ⟨_, _, _, _, _, T10⟩
      | 11, h => exact (Option.some.inj h) ▸ ⟨_, _, _, _, _, T11⟩
      | 12, h => exact (Option.some.inj h) ▸ ⟨_, _, _, _, _, T12⟩
      | 13, h => exact (Option.some.inj h) ▸ ⟨_, _, _, _, _, T13⟩
      | 14, h => exact (Option.some.inj h) ▸ ⟨_, _, _, _, _, T14⟩
      | n + 15, h => exact nomatch h
  exact ⟨_, fun s v => .of_eq rfl, fun base _ _ => (run_ok g 20 14 f_law rfl _ _ _ _ _ T14).imp (spLaw_ev good)⟩
end Law
open PySem PySem.W PyProof.Rows
set_option maxHeartbeats 0 in
theorem PySem.Challenge.cw_closedcuts_k28_statistics_and_parts_holds : PySem.Challenge.rw_closedcuts_k28_statistics_and_parts.Holds := by
  w_on; o_law; k_head; (case hw => w_witness2)
  k_fill
  refine L2.walk_of (l := PySem.Challenge.rw_closedcuts_k28_statistics_and_parts) (n := 63) (k := 20) (x := "script") (CX := fun w => L2.CX PySem.Challenge.rw_closedcuts_k28_statistics_and_parts.prog w) (sp := fun w => Ev.spLaw _) rfl (by decide) rfl ⟨rfl, by decide, by decide⟩ (fun w h Y => PySem.W.kIn_of Y) ?F (fun _ _ a ns hl hO hS => ⟨a, ns, rfl, hO, hS, hl, fun _ => rfl⟩) (fun _ _ _ _ _ ⟨_, _, _, _, _, _, _, _, _, _, _, _, h⟩ => h)
  case F =>
    intro w mg fa h KX GN hmg
    refine' Law.all_mk KX GN hmg ?A0 ?l0 ?c0 ?k0 ?A1 ?l1 ?c1 ?k1 ?A2 ?l2 ?c2 ?k2 ?A3 ?l3 ?c3 ?k3 ?A4 ?l4 ?c4 ?k4 ?A5 ?l5 ?c5 ?k5 ?A6 ?l6 ?c6 ?k6 ?A7 ?l7 ?c7 ?k7 ?A8 ?l8 ?c8 ?k8 ?A9 ?l9 ?c9 ?k9 ?A10 ?l10 ?c10 ?k10 ?A11 ?l11 ?c11 ?k11 ?A12 ?l12 ?c12 ?k12 ?A13 ?l13 ?c13 ?k13 ?A14 ?l14 ?c14 ?k14 ?z_abs ?z_all ?z_any ?z_bool ?z_dict ?z_int ?z_isinstance ?z_len ?z_list ?z_max ?z_min ?z_ord ?z_range ?z_reversed ?z_set ?z_sorted ?z_str ?z_sum ?z_tuple
    (case A0 => k_is)
    (case l0 => k_is)
    (case c0 => k_is)
    (case k0 => k_is)
    (case A1 => k_is)
    (case l1 => k_is)
    (case c1 => k_is)
    (case k1 => k_is)
    (case A2 => k_is)
    (case l2 => k_is)
    (case c2 => k_is)
    (case k2 => k_is)
    (case A3 => k_is)
    (case l3 => k_is)
    (case c3 => k_is)
    (case k3 => k_is)
    (case A4 => k_is)
    (case l4 => k_is)
    (case c4 => k_is)
    (case k4 => k_is)
    (case A5 => k_is)
    (case l5 => k_is)
    (case c5 => k_is)
    (case k5 => k_is)
    (case A6 => k_is)
    (case l6 => k_is)
    (case c6 => k_is)
    (case k6 => k_is)
    (case A7 => k_is)
    (case l7 => k_is)
    (case c7 => k_is)
    (case k7 => k_is)
    (case A8 => k_is)
    (case l8 => k_is)
    (case c8 => k_is)
    (case k8 => k_is)
    (case A9 => k_is)
    (case l9 => k_is)
    (case c9 => k_is)
    (case k9 => k_is)
    (case A10 => k_is)
    (case l10 => k_is)
    (case c10 => k_is)
    (case k10 => k_is)
    (case A11 => k_is)
    (case l11 => k_is)
    (case c11 => k_is)
    (case k11 => k_is)
    (case A12 => k_is)
    (case l12 => k_is)
    (case c12 => k_is)
    (case k12 => k_is)
    (case A13 => k_is)
    (case l13 => k_is)
    (case c13 => k_is)
    (case k13 => k_is)
    (case A14 => k_is)
    (case l14 => k_is)
    (case c14 => k_is)
    (case k14 => k_is)
    (case z_abs => k_is)
    (case z_all => k_is)
    (case z_any => k_is)
    (case z_bool => k_is)
    (case z_dict => k_is)
    (case z_int => k_is)
    (case z_isinstance => k_is)
    (case z_len => k_is)
    (case z_list => k_is)
    (case z_max => k_is)
    (case z_min => k_is)
    (case z_ord => k_is)
    (case z_range => k_is)
    (case z_reversed => k_is)
    (case z_set => k_is)
    (case z_sorted => k_is)
    (case z_str => k_is)
    (case z_sum => k_is)
    (case z_tuple => k_is)
